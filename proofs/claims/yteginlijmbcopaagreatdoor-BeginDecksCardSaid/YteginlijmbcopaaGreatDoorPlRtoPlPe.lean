/- The pure logic: PlR, PlU, PlW, PlS, PlT, PlV, PlX, PlXd, PlXe, PlXf, PlY, PlZ, PlPe. -/
import Derived.Test.YteginlijmbcopaaGreatDoorPlAtoPlQ
import Derived.LoopN
import Derived.ProofKit
import Derived.OpenShut
import Derived.Handy
import Derived.Lay
import Derived.LaidSub
import Derived.SevenTiedAt
import Derived.Lib.LaidTab
open Prod.mk (injEq)
open Bool (and_eq_true or_eq_true not_eq_true' or_eq_false_iff)
open List (map_cons mem_map all_eq_true mem_filter map_map flatMap_cons mem_cons take_append_drop getElem?_append_right drop_drop mem_iff_getElem getElem?_set append_assoc cons_append all_append filter_sublist mem_of_getElem? all_cons find?_some nodup_cons drop_left)
open Nat (eq_of_beq_eq_true le_refl add_assoc add_zero)
set_option linter.all false
namespace Go.PL
open Go Go.RowKit
def iP:List V->List V->Prop
 | [],[]=>True
 | a::l,b::m=>(b= .undef \/b=a)/\iP l m
 | _,_=>False
theorem iP.get: ∀ {l m:List V},iP l m->m.length=l.length/\ ∀ i,m.getD i .undef = .undef \/m.getD i .undef =l.getD i .undef
 | [],[],_=>(by grind)
 | a::l,b::m,h=>by
   obtain⟨h1,h2⟩:=h;obtain⟨q1,q2⟩:=iP.get h2;refine⟨by simp [q1],fun i=>?_⟩;cases i with
   | zero=>simpa using h1
   | succ i=>simpa using q2 i
 | [],_::_,h=>h.elim
 | _::_,[],h=>h.elim
theorem xE (a b:Nat):(([a]:List Nat)==[b])=(a==b):=by grind
theorem xF (a b:Nat):(([a]:List Nat) != [b])=(a != b):=by grind
theorem tA (a b c d:Nat):(([a,c]:List Nat)==[b,d])=(a==b&&c==d):=by grind
theorem Abx (a b:Nat):(([a]:List Nat)=[b])=(a=b):=by simp
theorem iQ (z:List C):B7 z 0=[]:=by simp [B7]
theorem UM (z:List C) (k:Nat):B7 z (k+1)=z++B7 z k:=by
 unfold B7;have e:(k+1)*z.length=z.length+k*z.length:=by grind
 rw [e,List.range_add,List.map_append];congr 1
 ·apply List.ext_getElem<;>simp;grind [Nat.mod_eq_of_lt]
 simp_all
theorem eF (k:IntKind) (l:List Int):Am (l.map (C.int k))=true:=O1 _ (fun _=>rfl) l
theorem eG (l:List (List UInt8)):Am (l.map C.str)=true:=O1 _ (fun _=>rfl) l
theorem Z8 (l:List Bool):Am (l.map C.bool)=true:=O1 _ (fun _=>rfl) l
theorem N7 {g:C->C} (hg: ∀ c:C,c.pure=true->g c=c): ∀ {l:List C},Am l=true->l.map g=l
 | [],_=>rfl
 | c::l,h=>by simp only [Am,and_eq_true]at h;rw [map_cons,hg c h.1,N7 hg h.2]
theorem mB (id:Ah) {c:C} (h:c.pure=true):Io id c=c:=by simp [Io,Im id c h]
theorem mD {l:List C} (id:Ah) (h:Am l=true):l.map (Io id)=l:=N7 (fun _ hc=>mB id hc) h
theorem q9 {id:Ah} {len:Nat} {cs:List C} {c:C} (h:c.pure=true):KN id len cs c=c:=by cases c<;>simp_all [KN,C.pure,AQ]
theorem rc {id:Ah} {len:Nat} {cs:List C} {l:List C} (h:Am l=true):l.map (KN id len cs)=l:=N7 (fun _ hc=>q9 hc) h
theorem rf {c:C} (h:c.pure=true):Rh c=[]:=by cases c<;>simp_all [Rh,C.pure]
theorem ce: ∀ {l:List C},Am l=true->l.flatMap Rh=[]
 | [],_=>rfl
 | c::l,h=>by simp only [Am,and_eq_true]at h;rw [flatMap_cons,rf h.1,ce h.2];rfl
attribute [go_sem] BZ eF eG Z8 mD rc ce AQ
attribute [go_sem] xE xF tA Abx iQ UM Nat.reduceLeDiff Nat.reduceLT le_refl Nat.reduceBEq Nat.reduceBNe Nat.reduceMul Nat.reduceAdd Nat.reduceSub
end Go.PL
namespace Go.PL
open Go Go.RowKit
section
variable {P:Program} {F:Fr} {st:St} {c:Code} {Q:Exit->St->Prop}
end
end Go.PL
namespace Go.PL
open Go Go.RowKit
def Wn (st:St) (x:Operand):Option (FuncId×List C):=
 match st.ev x with
 | .c (.fn f)=>some (f,[])
 | .c (.clo f cs)=>some (f,cs)
 | _=>none
def St.enter (st:St) (k:Nat) (args:List V) (n:Nat):St:=⟨args++List.replicate (n - args.length) .undef,st.so,st.tm++st.gh,k::st.pre⟩
def St.back (st:St) (m:Nat) (pre:Ah) (d:Option Nat) (r:V):St:=(⟨st.gh.take m,st.so,st.gh.drop m,pre⟩:St).put d r
def Px (P:Program) (st:St):ResultVar->Prop×V
 | .tmp t=>(True,st.get t)
 | .cell t T=>DW P T st (st.get t)
def CN (P:Program) (st:St):List ResultVar->Prop×List V
 | []=>(True,[])
 | x::xs=>((Px P st x).1/\(CN P st xs).1,(Px P st x).2::(CN P st xs).2)
def CI (P:Program) (st:St):List ResultVar->Prop×V
 | [x]=>Px P st x
 | xs=>((CN P st xs).1, .tup (CN P st xs).2)
section
variable {P:Program} {F:Fr} {st:St} {a:Act} {w:World} {G:AF}
theorem WX (h:R F st a w G) {x:ResultVar} (hs:(Px P st x).1): ∃ v,(J9 a.tmps x).run P w= .ok v w/\Ab w G (Px P st x).2 v:=by
 cases x with
 | tmp t=>exact⟨_,rfl,h.w_ t⟩
 | cell t T=>
   simp only [Px]at hs ⊢;obtain⟨v,q1,q2⟩:=N0 (P:=P) h (h.w_ t) hs;obtain⟨p,axu⟩:=cd (h.w_ t) hs;refine⟨v,?_,q1⟩;grind [C6.refl,J9,asAddr,Instr.loadAt,Instr.sureAddr]
theorem UN (h:R F st a w G): ∀ {xs:List ResultVar},(CN P st xs).1-> ∃ vs,(xs.mapM (J9 a.tmps)).run P w= .ok vs w/\As w G (CN P st xs).2 vs
 | [],_=>(by simp_all [CN,As])
 | x::xs,hs=>by simp only [CN]at hs ⊢;obtain⟨v,q1,q2⟩:=WX h hs.1;obtain⟨vs,k1,k2⟩:=UN h hs.2;exact⟨v::vs,by simp_all,by simp only [As];grind⟩
theorem rh {xs:List ResultVar}:(CN P st xs).2.length =xs.length:=by induction xs<;>grind [CN]
theorem MN (h:R F st a w G) {fn:Func} (hs:(CI P st fn.results.toList).1): ∃ v,(results fn a.tmps).run P w= .ok v w/\Ab w G (CI P st fn.results.toList).2 v:=by
 generalize hx:fn.results.toList=xs at hs ⊢
 match xs,hx,hs with
 | [x],hx,hs=>
   simp only [CI]at hs ⊢;obtain⟨v,q1,q2⟩:=WX h hs;exact⟨v,by have:=Gt (P:=P) (w:=w) (fn:=fn) (tmps:=a.tmps) (vs:=[v]) (by rw [hx];simp [q1]);grind,q2⟩
 | [],hx,hs=>
   simp_all [CI,CN,Ab,As,Gt]
 | x::y::xs,hx,hs=>
   simp only [CI]at hs ⊢;obtain⟨vs,q1,q2⟩:=UN h hs;refine⟨.tuple vs.toArray,?_,by simp only [Ab];grind⟩;have:=Gt (P:=P) (w:=w) (fn:=fn) (tmps:=a.tmps) (by rw [hx];exact q1);rw [this];have hl:=Fc q2;rw [rh]at hl
   match vs,hl with
   | v::u::vs,_=>rfl
theorem Jj {w:World} {G:AF}: ∀ {xs ys:List V} {us vs:List Value},As w G xs us->As w G ys vs->As w G (xs++ys) (us++vs)
 | [],_,us,_,h,h'=>by grind [As]
 | x::xs,ys,us,vs,h,h'=>by simp only [As]at h;obtain⟨v,r,rfl,h1,h2⟩:=h;simp only [cons_append,As];exact⟨v,r++vs,rfl,h1,Jj h2 h'⟩
theorem UO {w:World} {G:AF}: ∀ {xs:List V} {us vs:List Value},As w G xs (us++vs)->As w G (xs.take us.length) us/\As w G (xs.drop us.length) vs
 | xs,[],vs,h=>(by grind [As])
 | [],u::us,vs,h=>by simp [As]at h
 | x::xs,u::us,vs,h=>by simp only [cons_append,As]at h;obtain⟨v,r,e,h1,h2⟩:=h;injection e with e1 e2;subst e1 e2;obtain⟨k1,k2⟩:=UO h2;simp only [List.length_cons,List.take_succ_cons,List.drop_succ_cons,As];grind
theorem N8 {w:World} {G:AF}: ∀ {xs:List V} {us:List Value},xs.length=us.length->(∀ i,Ab w G (xs.getD i .undef) (us.getD i Go.undef))->As w G xs us
 | [],[],_,_=>by simp [As]
 | x::xs,u::us,hl,h=>by simp only [As];exact⟨u,us,rfl,by simpa using h 0,N8 (by grind) (fun i=>by simpa using h (i+1))⟩
 | [],_::_,hl,_=>by simp at hl
 | _::_,[],hl,_=>by simp at hl
theorem ST {w:World} {G:AF}: ∀ {cs:List C} {us:List Value},Ai w G cs us->As w G (cs.map V.c) us
 | [],[],_=>by simp [As]
 | c::cs,u::us,h=>by simp only [Ai]at h;simp only [map_cons,As];exact⟨u,us,rfl,by grind [Ab],ST h.2⟩
 | [],_::_,h=>by simp [Ai]at h
 | _::_,[],h=>by simp [Ai]at h
theorem R.enter (h:R F st a w G) (k:Nat) {args:List V} {us:Array Value} (ha:As w G args us.toList) (n:Nat):
 R {F with gv:=a.tmps.toList++F.gv} (st.enter k args n) {tmps:=us++Array.replicate (n - us.size) Go.undef,defers:=[]} w G:=by
 have hl:=Fc ha;have hl':args.length=us.size:=by grind
 exact {
  dfr:=rfl
  size:=by simp [St.enter,hl']
  w_:=by
   intro i;simp only [St.enter,List.getD_eq_getElem?_getD,Array.getD_eq_getD_getElem?];by_cases hi:i<args.length
   ·grind [JA]
   grind [Ab]
  I_:=Jj (N8 (by simpa using h.size.symm) (fun i=>by have:=h.w_ i;simp_all)) h.I_
  store:=h.store,deep:=h.deep,y_:=h.y_,nodup:=h.nodup,inj:=h.inj,lt:=h.lt,new:=h.new,wr:=h.wr,aaJ:=h.aaJ,inv:=h.inv,aae:=h.aae
  os:=h.os,tape:=h.tape,output:=h.output,v_:=h.v_,ext:=h.ext}
theorem mE {w:World} {G:AF} {xs:List V} {us:List Value} (h:As w G xs us) (i:Nat):Ab w G (xs.getD i .undef) (us.getD i Go.undef):=by grind [JA,Ab]
theorem R.back {a':Act} {a_:St} (hd:a.defers=[]) {gv:List Value} (hgv:F.gv=a.tmps.toList++gv) (h:R F a_ a' w G) {m:Nat} (hm:m=a.tmps.size) (pre:Ah):R {F with gv:=gv} ⟨a_.gh.take m,a_.so,a_.gh.drop m,pre⟩ a w G:=by
 have hg:=h.I_;rw [hgv]at hg;obtain⟨h1,h2⟩:=UO hg;have e:a.tmps.toList.length=m:=by simp [hm]
 rw [e]at h1 h2;exact {
  dfr:=hd
  size:=by grind [Fc]
  w_:=fun i=>by have:=mE h1 i;simp_all
  I_:=h2
  store:=h.store,deep:=h.deep,y_:=h.y_,nodup:=h.nodup,inj:=h.inj,lt:=h.lt,new:=h.new,wr:=h.wr,aaJ:=h.aaJ,inv:=h.inv,aae:=h.aae
  os:=h.os,tape:=h.tape,output:=h.output,v_:=h.v_,ext:=h.ext}
end
def inQ (P:Program) (rs:List ResultVar) (m:Nat) (pre:Ah) (d:Option Nat) (K:St->Prop):Exit->St->Prop
 | .normal,st=>(CI P st rs).1/\K (st.back m pre d (CI P st rs).2)
 | .ret,st=>(CI P st rs).1/\K (st.back m pre d (CI P st rs).2)
 | _,_=>False
theorem DL.inline {P:Program} {I:World->Prop} {o:Oper} {st:St} {K:St->Prop} {x:Operand} {xs:List Operand} {c:Call} {s:Prop} {vs:List V} {f:FuncId} {cs:List C} {fn:Func} {body:Code} {n:Nat} {rs:List ResultVar} (k:Nat)
 (ho:o.op= .call c) (adK:c.callee= .value x) (hxs:c.args.toList=xs) (ha:st.args true xs=(s,vs)) (hs:s) (hf:Wn st x=some (f,cs)) (abh:ent P f=true) (hfn:P.funcs[f]? =some fn) (hb:fn.body=some body) (hn:fn.ntmps=n) (hr:fn.results=rs.toArray)
 (h: ∀ w0 av old gv,Ad P ⟨w0,av,old,I,gv⟩ body (st.enter k (vs++cs.map V.c) n) (inQ P rs st.tm.length st.pre o.dst K)):DL P I o st K:=by
 intro F a w G Q hI hR;have abQ:As w G vs (xs.map a.eval):=by have:=hR.args (g:=true) rfl (xs:=xs) (by grind);grind
 obtain⟨arr,hev,hcs⟩: ∃ arr:Array Value,a.eval x= .func (.func f) #[] arr/\Ai w G cs arr.toList:=by
  have hx:=hR.ev x;unfold Wn at hf;split at hf
  ·rename_i f' he;rw [he]at hx;simp only [Option.some.injEq,injEq]at hf;obtain⟨rfl,rfl⟩:=hf;grind [Ab,Ae,Ai]
  ·rename_i f' cs' he;rw [he]at hx;simp only [Option.some.injEq,injEq]at hf;obtain⟨rfl,rfl⟩:=hf;grind [Ab,Ae]
  ·cases hf
 have s_:(execOp a.eval o).run P w= .ok (.enter f ((xs.map a.eval).toArray ++arr)) w:=by
  have e:c.args.map a.eval=(xs.map a.eval).toArray :=by grind
  grind [execOp,resolve,Deferred.ofValue,invoke,ab4]
 unfold Oper.wp Oper.upon;rw [s_];simp only;obtain⟨w0,av,old,I',gv⟩:=F;simp only at hI;subst hI;have ae1:As w G (vs++cs.map V.c) ((xs.map a.eval).toArray ++arr).toList :=by grind [Jj,ST]
 refine calls_of_wp hfn hb ?_;have hR0:=hR.enter k ae1 fn.ntmps;rw [hn]at hR0;rw [hn];refine Code.wp_mono (fun e a' w' ⟨a_,G',q,hR'⟩=>?_) (h _ _ _ _ _ _ _ hR0);have hrs:fn.results.toList=rs:=by rw [hr]
 have fin:(CI P a_ rs).1/\K (a_.back st.tm.length st.pre o.dst (CI P a_ rs).2)->
  a'.defers=[]/\ ∃ v,(results fn a'.tmps).run P w'= .ok v w'/\ir ⟨w0,av,old,I',gv⟩ K (a.put o.dst v) w':=by
  intro ⟨q1,q2⟩;rw [<-hrs]at q1 q2;obtain⟨v,k1,k2⟩:=MN hR' (fn:=fn) q1;refine⟨hR'.dfr,v,k1,_,G',q2,?_⟩;exact(R.back hR.dfr rfl hR' hR.size.symm st.pre).put k2
 cases e<;>simp only [inQ]at q<;>first | exact fin q | exact q.elim
end Go.PL
namespace Go.PL
open Go Go.RowKit Go.ChangeShapes Go.WideShapes
theorem PM {H:Type} {enc:TypeId×Value->H} {P:Program} (hl:laidOutB P=true) {W W':World} (hb:Below W.heap.size W W'):
 ∀ {ts:List TypeId} {vs:List Value} {ds:List (DataW H)} {ps:List MemPlace},(ts.all fun t=>P.readableRec t&&decide (t<P.types.size))=true->DataW.TrodAll enc P W 0 (fun _=>true) true ts vs ds ps->(∀ x∈ps,x.block<W.heap.size)->
   DataW.TrodAll enc P W' 0 (fun b=>decide (b<W.heap.size)) true ts vs ds ps
 | [],_,_,_,_,h,_=>by obtain⟨rfl,rfl,rfl⟩:=trodAll_nil h;exact trodAll_mk0
 | t::ts,_,_,_,hr,h,hlt=>by obtain⟨v,vs1,d,ds1,a,b,rfl,rfl,rfl,h1,h2⟩:=trodAll_cons h;simp only [all_cons,and_eq_true,decide_eq_true_eq]at hr;exact⟨a,b,(by grind [Below.trod]),PM hl hb hr.2 h2 (fun x hx=>hlt x (by simp [hx])),rfl⟩
theorem BV.law {P:Program} {I:World->Prop} {f:FuncId} {xs:List V} (h:BV P I f xs (· = .c (.bool true))) {W:World} (hI:I W) {args:Array Value} (ha:As W (im fun _=>False) xs args.toList):
 Calls P f args W fun e W'=>e= .returned (.bool true)/\Below W.heap.size W W':=by
 refine(h.run W args (fun _=>False) hI (fun _ h=>h.elim) ha).mono fun e W' ⟨v,r,he,hr,_,hv,hb⟩=>⟨?_,hb⟩;grind [Ab,Ae]
end Go.PL
namespace Go.PL
open Go Go.RowKit Go.ChangeShapes Go.WideShapes
def SU (R:TypeId->List C->Prop):List TypeId->List (List C)->Prop
 | [],Dp=>Dp=[]
 | t::ts,Dp=> ∃ ds r,Dp=ds::r/\R t ds/\SU R ts r
def Bo (P:Program):Nat->TypeId->List C->Prop
 | 0,_,_=>False
 | n+1,t,cs=>match P.underlying t with
   | some .bool => ∃ b,cs=[.bool b]
   | some (.int k)=> ∃ z,cs=[.int k z]/\(Lit.int k z).wf =true
   | some .string => ∃ s:List UInt8,cs=[.str s]/\s.length<=reachBytes
   | some (.slice e)=> ∃ Dp:List (List C),cs=[.sl Dp.length Dp.flatten]/\Dp.length*P.bytesOf e<=reachBytes/\ ∀ ds∈Dp,Bo P n e ds
   | some (.struct fs)=> ∃ Dp:List (List C),cs=Dp.flatten/\SU (Bo P n) (fs.toList.map (·.type)) Dp
   | some (.array m e)=> ∃ Dp:List (List C),cs=Dp.flatten/\Dp.length=m/\ ∀ ds∈Dp,Bo P n e ds
   | some (.pointer e)=>cs=[.ab_]\/ ∃ ds,cs=[.aby ds 0]/\Bo P n e ds
   | some (.interface _)=>cs=[.aag]\/cs=[.held]
   | _=>False
theorem Ib: ∀ {Dp:List (List C)},(∀ ds∈Dp,Am ds=true)->Am Dp.flatten=true
 | [],_=>rfl
 | ds::Dp,h=>by rw [List.flatten_cons,BZ,h ds (by simp),Ib (fun d hd=>h d (by simp [hd]))];rfl
theorem cf {R:TypeId->List C->Prop} (hR: ∀ t ds,R t ds->Am ds=true): ∀ {ts:List TypeId} {Dp:List (List C)},SU R ts Dp-> ∀ ds∈Dp,Am ds=true
 | [],Dp,h,ds,hd=>by grind [SU]
 | t::ts,Dp,h,ds,hd=>by
   simp only [SU]at h;obtain⟨d,r,rfl,h1,h2⟩:=h;rcases mem_cons.1 hd with rfl | hd
   ·exact hR t _ h1
   ·exact cf hR h2 ds hd
theorem MO {P:Program}: ∀ {n:Nat} {t:TypeId} {cs:List C},Bo P n t cs->Am cs=true
 | 0,_,_,h=>h.elim
 | n+1,t,cs,h=>by
   unfold Bo at h;split at h
   ·obtain⟨b,rfl⟩:=h;rfl
   ·obtain⟨z,rfl,_⟩:=h;rfl
   ·obtain⟨s,rfl,_⟩:=h;rfl
   ·obtain⟨Dp,rfl,_⟩:=h;rfl
   ·obtain⟨Dp,rfl,h2⟩:=h;exact Ib (cf (fun t ds h=>MO h) h2)
   ·obtain⟨Dp,rfl,_,h2⟩:=h;exact Ib (fun ds hd=>MO (h2 ds hd))
   ·rcases h with rfl | ⟨ds,rfl,_⟩<;>rfl
   ·rcases h with rfl | rfl<;>rfl
   grind
section
variable {H:Type} {enc:TypeId×Value->H} {P:Program} {w:World} {spare:Nat->Bool}
theorem WY {G:AF}: ∀ {a b:List C} {u v:List Value},Ai w G a u->Ai w G b v->Ai w G (a++b) (u++v)
 | [],_,[],_,_,h=>h
 | _::_,_,_::_,_,h,h'=>by simp only [Ai]at h;simp only [cons_append,Ai];exact⟨h.1,WY h.2 h'⟩
 | [],_,_::_,_,h,_=>by simp [Ai]at h
 | _::_,_,[],_,h,_=>by simp [Ai]at h
theorem iR {G:AF}: ∀ {a:List C} {u:List Value},Ai w G a u->a.length=u.length
 | [],[],_=>rfl
 | _::_,_::_,h=>by simp only [Ai]at h;simp [iR h.2]
 | [],_::_,h=>by simp [Ai]at h
 | _::_,[],h=>by simp [Ai]at h
theorem SV {G:AF} {b:Nat}: ∀ {cs:List C} {ds:List Value} {o:Nat},Ai w G cs ds->(∀ j,j<ds.length->w.cell? ⟨b,o+j,none⟩=ds[j]?)->Al w G cs b o
 | [],_,_,_,_=>by simp [Al]
 | c::cs,d::ds,o,h,hc=>by simp only [Ai]at h;simp only [Al];refine⟨⟨d,by simpa using hc 0 (by simp),h.1⟩,SV h.2 (fun j hj=>?_)⟩;have:=hc (j+1) (by simp;omega);simpa [add_assoc,Nat.add_comm 1 j] using this
 | _::_,[],_,h,_=>by simp [Ai]at h
theorem WZ {G:AF} {b:Nat}: ∀ {cs cs':List C} {o:Nat},Al w G cs b o->Al w G cs' b (o+cs.length)->Al w G (cs++cs') b o
 | [],_,_,_,h=>by grind
 | c::cs,cs',o,h,h'=>by simp only [Al]at h;simp only [cons_append,Al];exact⟨h.1,WZ h.2 (by simpa [add_assoc,Nat.add_comm 1] using h')⟩
theorem iS {a:Addr} {n:Nat} {cs:List Value} (hn:0<n) (h:w.cells? 0 a n=some cs):a=⟨a.block,a.off,none⟩/\a.block<w.heap.size/\cs.length=n/\ ∀ j,j<n->w.cell? ⟨a.block,a.off+j,none⟩=cs[j]? :=by
 obtain⟨_,hl,hc⟩:=World.cells?_some h;have h0:=hc 0 hn;obtain⟨b,o,sp⟩:=a;have hsp:sp=none:=by
  cases sp with
  | none=>rfl
  | some x=>
    have e:cs[0]? =some cs[0]:=by grind
    rw [e]at h0;simp only [Addr.add,if_true]at h0;grind [World.cell?]
 subst hsp;refine⟨rfl,World.cells?_block h hn,hl,fun j hj=>?_⟩;grind [Addr.add]
def xG (P:Program):Nat->List Field->Bool
 | _,[]=>true
 | o,f::fs=>f.offset==o&&xG P (o+P.cellsOf f.type) fs
def xr (P:Program):Nat->TypeId->Bool
 | 0,_=>false
 | n+1,t=>match P.underlying t with
   | some .bool =>P.cellsOf t==1
   | some (.int _)=>P.cellsOf t==1
   | some .string =>P.cellsOf t==1
   | some (.slice e)=>P.cellsOf t==1&&decide (0<P.cellsOf e)&&xr P n e
   | some (.struct fs)=>xG P 0 fs.toList&&P.cellsOf t==(fs.toList.map fun f=>P.cellsOf f.type).sum &&fs.toList.all (fun f=>xr P n f.type)
   | some (.array m e)=>P.cellsOf t==m*P.cellsOf e&&xr P n e
   | some (.pointer e)=>P.cellsOf t==1&&decide (0<P.cellsOf e)&&xr P n e
   | some (.interface _)=>P.cellsOf t==1
   | _=>false
variable {G:AF} (hG: ∀ b,b<w.heap.size-> ¬G.wr b)
def ph (enc:TypeId×Value->H) (P:Program) (w:World) (spare:Nat->Bool) (G:AF) (n:Nat) (t:TypeId):Prop:=
 ∀ (fuel:Nat) (vs:List Value) (x:DataW H×List MemPlace),DataW.trod enc P w 0 spare true fuel t vs=some x->(x.1.weights P t).all (· <=reachBytes)=true-> ∃ cs,Ai w G cs vs/\Bo P n t cs/\vs.length=P.cellsOf t
theorem UP {n:Nat}: ∀ {fs:List Field} {o m:Nat} {vs:List Value} {xs:List (DataW H×List MemPlace)},xG P o fs=true->vs.length=o+(fs.map fun f=>P.cellsOf f.type).sum ->xs.length=fs.length->
 (∀ f∈fs,ph enc P w spare G n f.type)->
 (∀ (i:Nat) (f:Field),fs[i]? =some f->DataW.trod enc P w 0 spare true m f.type ((vs.drop f.offset).take (P.cellsOf f.type))=xs[i]?)->
 (DataW.weightsEach P (fs.map (·.type)) (xs.map (·.1))).all (· <=reachBytes)=true-> ∃ Dp:List (List C),Ai w G Dp.flatten (vs.drop o)/\SU (Bo P n) (fs.map (·.type)) Dp
 | [],o,m,vs,xs,_,hl,_,_,_,_=>by
   refine⟨[],?_,rfl⟩;have:vs.drop o=[]:=by simp_all
   rw [this];simp [Ai]
 | f::fs,o,m,vs,xs,ht,hl,hx,hr,hf,hw=>by
   simp only [xG,and_eq_true,beq_iff_eq]at ht;obtain⟨h1,h2⟩:=ht;cases xs with
   | nil=>simp at hx
   | cons x xs=>
     simp only [map_cons,List.sum_cons]at hl;simp only [map_cons,DataW.weightsEach,all_append,and_eq_true]at hw;have h0:=hf 0 f rfl;simp only [List.getElem?_cons_zero]at h0;obtain⟨cs,q1,q2,q3⟩:=hr f (by simp) m _ x h0 hw.1;obtain⟨Dp,k1,k2⟩:=UP (o:=o+P.cellsOf f.type) (m:=m) (vs:=vs) (xs:=xs) h2 (by omega) (by grind) (fun g hg=>hr g (by simp [hg]))
      (fun i g hg=>by have:=hf (i+1) g (by simpa using hg);grind) hw.2
     refine⟨cs::Dp,?_,cs,Dp,rfl,q2,k2⟩;grind [drop_drop,take_append_drop,WY]
theorem W0 {n e:Nat} (hr:ph enc P w spare G n e): ∀ (k o m:Nat) (vs:List Value) (xs:List (DataW H×List MemPlace)),vs.length=o+k*P.cellsOf e->xs.length=k->
 (∀ i,i<k->DataW.trod enc P w 0 spare true m e ((vs.drop (o+i*P.cellsOf e)).take (P.cellsOf e))=xs[i]?)->
 (DataW.weightsAll P e (xs.map (·.1))).all (· <=reachBytes)=true-> ∃ Dp:List (List C),Ai w G Dp.flatten (vs.drop o)/\Dp.length=k/\ ∀ ds∈Dp,Bo P n e ds
 | 0,o,m,vs,xs,hl,_,_,_=>by refine⟨[],?_,rfl,by simp⟩;grind [Ai]
 | k+1,o,m,vs,xs,hl,hx,hf,hw=>by
   cases xs with
   | nil=>simp at hx
   | cons x xs=>
     simp only [map_cons,DataW.weightsAll,all_append,and_eq_true]at hw;have h0:=hf 0 (by omega);simp only [Nat.zero_mul,add_zero,List.getElem?_cons_zero]at h0;obtain⟨cs,q1,q2,q3⟩:=hr m _ x h0 hw.1;obtain⟨Dp,k1,k2,k3⟩:=W0 hr k (o+P.cellsOf e) m vs xs (by grind) (by grind)
      (by grind) hw.2
     refine⟨cs::Dp,?_,by simp [k2],?_⟩
     ·grind [drop_drop,take_append_drop,WY]
     grind
theorem W2 {n e:Nat} (att:0<P.cellsOf e) (hr:ph enc P w spare G n e): ∀ (k o m:Nat) (a:Addr) (xs:List (DataW H×List MemPlace)),xs.length=k->
 (∀ i,i<k->(w.cells? 0 (a.add (o+i*P.cellsOf e)) (P.cellsOf e)).bind (DataW.trod enc P w 0 spare true m e)=xs[i]?)->
 (DataW.weightsAll P e (xs.map (·.1))).all (· <=reachBytes)=true->
 ∃ Dp:List (List C),Dp.length=k/\(∀ ds∈Dp,Bo P n e ds)/\(0<k->a.block<w.heap.size/\(o=0->a=⟨a.block,a.off,none⟩)/\Al w G Dp.flatten a.block (a.off+o))
 | 0,o,m,a,xs,_,_,_=>(by simp_all)
 | k+1,o,m,a,xs,hx,hf,hw=>by
   cases xs with
   | nil=>simp at hx
   | cons x xs=>
     simp only [map_cons,DataW.weightsAll,all_append,and_eq_true]at hw;have h0:=hf 0 (by omega);simp only [Nat.zero_mul,add_zero,List.getElem?_cons_zero,Option.bind_eq_some_iff]at h0;obtain⟨vs,hvs,htr⟩:=h0;obtain⟨cs,q1,q2,q3⟩:=hr m _ x htr hw.1;obtain⟨c1,c2,c3,c4⟩:=iS att hvs;obtain⟨Dp,k2,k3,k4⟩:=W2 att hr k (o+P.cellsOf e) m a xs (by grind)
      (by grind) hw.2
     have abm:(a.add o).block =a.block:=by grind [Addr.add]
     have ace:(a.add o).off =a.off+o:=by grind [Addr.add]
     refine⟨cs::Dp,by simp [k2],?_,fun _=>⟨by grind,fun ho=>?_,?_⟩⟩
     ·grind
     ·subst ho;have e:a.add 0=a:=rfl;grind
     grind [iR,WZ,SV,List.length_eq_zero_iff]
theorem W3 {c:C} {v:Value} (h:Ae w G c v):Ai w G [c] [v]:=by simp_all [Ai]
theorem pi {len:Nat} {cs:List C} {v:Value} (hp:Am cs=true) (h: ∃ a cap,v= .slice a len cap/\len<=cap/\cap<=maxLen/\(len=0->cs=[])/\
 (len=0\/ ∃ b off,a=some ⟨b,off,none⟩/\ ¬G.wr b/\b<w.heap.size/\Al w G cs b off)):Ae w G (.sl len cs) v:=by grind [Ae]
theorem ri {cs:List C} {off:Nat} {v:Value} (hp:Am cs=true) (h: ∃ b o,v= .pointer (some ⟨b,o+off,none⟩)/\ ¬G.wr b/\b<w.heap.size/\Al w G cs b o):Ae w G (.aby cs off) v:=by grind [Ae]
include hG in
theorem L6: ∀ (n:Nat) (t:TypeId),xr P n t=true->ph enc P w spare G n t
 | 0,t,h=>by simp [xr]at h
 | n+1,t,h=>by
   intro fuel vs x hx hw;unfold xr at h;unfold Bo;split at h
   ·rename_i ht;obtain⟨b,rfl,rfl⟩:=DataW.trod_bool ht hx;exact⟨[.bool b],by simp [Ai,Ae],by grind,by grind⟩
   ·rename_i k ht;obtain⟨z,rfl,rfl,hwf⟩:=DataW.trod_int ht hx;exact⟨[.int k z],by simp [Ai,Ae],by grind,by grind⟩
   ·rename_i ht;obtain⟨s,rfl,rfl,hs⟩:=DataW.trod_string ht hx;simp only [DataW.weights,all_cons,List.all_nil,Bool.and_true,decide_eq_true_eq]at hw;exact⟨[.str s.data.toList],by simp [Ai,Ae],by grind,by grind⟩
   ·rename_i e ht;simp only [and_eq_true,decide_eq_true_eq,beq_iff_eq]at h;rcases DataW.trod_slice ht hx with ⟨rfl,rfl⟩ | ⟨a,len,cap,elems,rest,m,rfl,rfl,rfl,_,hle,aqN,hlen,hel,_,_⟩
    ·refine⟨[.sl 0 []],?_,?_,by grind⟩
     ·exact W3 (pi rfl (by grind))
     ·exact⟨[],rfl,by simp,by simp⟩
    ·simp only [DataW.weights,ht,all_cons,all_append,and_eq_true,decide_eq_true_eq,List.length_map]at hw;obtain⟨Dp,k2,k3,k4⟩:=W2 h.1.2 (L6 n e h.2) len 0 m a elems hlen (by grind) hw.2.1;refine⟨[.sl Dp.length Dp.flatten],?_,?_,by grind⟩
     ·refine W3 (pi (Ib (fun ds hd=>MO (k3 ds hd))) ⟨some a,cap,by rw [k2],by omega,aqN,fun h0=>by rw [List.length_eq_zero_iff.1 h0];rfl,?_⟩);rw [k2];by_cases hk:0<len
      ·obtain⟨q1,q2,q3⟩:=k4 hk;exact .inr ⟨a.block,a.off,by rw [<-q2 rfl],hG _ q1,q1,q3⟩
      ·exact .inl (by omega)
     grind
   ·rename_i fs ht;simp only [and_eq_true,beq_iff_eq,all_eq_true]at h;obtain⟨⟨h1,h2⟩,h3⟩:=h;obtain⟨xs,m,rfl,rfl,hl,hx2,hf⟩:=DataW.trod_struct ht hx;simp only [DataW.weights,ht]at hw;obtain⟨Dp,k1,k2⟩:=UP (fs:=fs.toList) (o:=0) (m:=m) (vs:=vs) (xs:=xs) (enc:=enc) (spare:=spare) (n:=n) h1 (by grind) (by grind) (fun f hf=>L6 n f.type (h3 f hf))
     (by grind) hw
    grind
   ·rename_i m e ht;simp only [and_eq_true,beq_iff_eq]at h;obtain⟨xs,q,rfl,rfl,hl,hx2,hf⟩:=DataW.trod_array ht hx;simp only [DataW.weights,ht]at hw;obtain⟨Dp,k1,k2,k3⟩:=W0 (L6 n e h.2) m 0 q vs xs (by grind) hx2 (by grind) hw;grind
   ·rename_i e ht;simp only [and_eq_true,decide_eq_true_eq,beq_iff_eq]at h;rcases DataW.trod_pointer ht hx with ⟨rfl,rfl⟩ | ⟨a,cs',y,m,rfl,rfl,rfl,hc,hy⟩
    ·exact⟨[.ab_],by simp [Ai,Ae],by grind,by grind⟩
    ·simp only [DataW.weights,ht]at hw;obtain⟨ds,q1,q2,q3⟩:=L6 n e h.2 m cs' y hy hw;obtain⟨c1,c2,c3,c4⟩:=iS h.1.2 hc;refine⟨[.aby ds 0],?_,by grind,by grind⟩;exact W3 (ri (MO q2) ⟨a.block,a.off,by grind,hG _ c2,c2,(by grind [SV])⟩)
   ·rename_i ms ht;cases fuel with
    | zero=>simp [DataW.trod]at hx
    | succ fuel=>
      unfold DataW.trod at hx;rw [ht]at hx;split at hx<;>simp_all
      ·exact⟨[.aag],by simp [Ai,Ae], .inl rfl⟩
      ·exact⟨[.held],by simp [Ai,Ae], .inr rfl⟩
   ·cases h
end
end Go.PL
namespace Go.PL
open Go Go.RowKit
section
variable {P:Program} {t e:TypeId} {n:Nat} {cs:List C}
theorem mF (hu:P.underlying t=some .bool) (h:Bo P n t cs): ∃ b,cs=[.bool b]/\True:=by cases n<;>simp_all [Bo]
theorem rj {k:IntKind} (hu:P.underlying t=some (.int k)) (h:Bo P n t cs): ∃ z,cs=[.int k z]/\(Lit.int k z).wf =true:=by cases n<;>grind [Bo]
theorem rk (hu:P.underlying t=some .string) (h:Bo P n t cs): ∃ s:List UInt8,cs=[.str s]/\s.length<=reachBytes:=by cases n<;>grind [Bo]
theorem W4 {α:Type} {R:List C->Prop} {enc:α->List C} {ok:α->Prop} (hd: ∀ ds,R ds-> ∃ x,ds=enc x/\ok x): ∀ {Dp:List (List C)},(∀ ds∈Dp,R ds)-> ∃ l:List α,Dp=l.map enc/\ ∀ y∈l,ok y
 | [],_=>(by simp_all)
 | ds::Dp,h=>by obtain⟨x,h1,h2⟩:=hd ds (h ds (by simp));obtain⟨l,h3,h4⟩:=W4 hd (fun d hd'=>h d (by simp [hd']): ∀ d∈Dp,R d);refine⟨x::l,by grind,fun y hy=>?_⟩;grind
theorem tC {α:Type} {enc:α->List C} {ok:α->Prop} {b:Nat} (hu:P.underlying t=some (.slice e)) (hb:P.bytesOf e=b) (hd: ∀ n ds,Bo P n e ds-> ∃ x,ds=enc x/\ok x) (h:Bo P n t cs):
 ∃ l:List α,cs=[.sl l.length (l.flatMap enc)]/\l.length*b<=reachBytes/\ ∀ y∈l,ok y:=by
 cases n with
 | zero=>exact h.elim
 | succ n=>
   simp only [Bo,hu]at h;obtain⟨Dp,h1,h2,h3⟩:=h;obtain⟨l,rfl,h5⟩:=W4 (hd n) h3;grind
theorem iT {α:Type} (f:α->C): ∀ l:List α,l.flatMap (fun x=>[f x])=l.map f
 | []=>rfl
 | a::l=>by rw [flatMap_cons,iT f l];rfl
theorem Bq {fs:Array Field} {ts:List TypeId} (hu:P.underlying t=some (.struct fs)) (hts:fs.toList.map (·.type)=ts) (h:Bo P n t cs): ∃ (m:Nat) (Dp:List (List C)),cs=Dp.flatten/\SU (Bo P m) ts Dp:=by cases n<;>grind [Bo]
theorem cg {α:Type} {enc:α->List C} {n:Nat} (hn: ∀ x,(enc x).length =n) (l:List α) {i:Nat} (d:α) (hi:i<l.length) (j m:Nat) (hj:j+m<=n):
 ((l.flatMap enc).drop (i*n+j)).take m=((enc (l.getD i d)).drop j).take m:=by
 induction l generalizing i with
 | nil=>simp at hi
 | cons a l ih=>
   cases i with
   | zero=>
     grind
   | succ i=>
     have:=ih (i:=i) (by simpa using hi);rw [List.getD_cons_succ, <-this,flatMap_cons];have e:(i+1)*n+j=(enc a).length +(i*n+j):=by grind
     simp_all [List.drop_append,List.drop_of_length_le]
theorem tD {α:Type} {enc:α->List C} {n:Nat} (hn: ∀ x,(enc x).length =n) (l:List α) {i:Nat} (d:α) (hi:i<l.length) (j:Nat) (hj:j<n):
 (l.flatMap enc).getD (i*n+j) C.any=(enc (l.getD i d)).getD j C.any:=by
 have h:=cg hn l d hi j 1 (by omega);have e: ∀ (m:List C) (k:Nat),m.getD k C.any=((m.drop k).take 1).getD 0 C.any:=by grind
 grind
theorem BO {α:Type} {enc:α->List C} {n:Nat} (hn: ∀ x,(enc x).length =n): ∀ l:List α,(l.flatMap enc).length =l.length*n
 | []=>by simp
 | a::l=>by rw [flatMap_cons,List.length_append,hn,BO hn l,List.length_cons,Nat.add_mul];omega
end
end Go.PL
namespace Go.PL
open Go Go.RowKit
def AX:List Prop->Prop
 | []=>True
 | p::ps=>p/\AX ps
theorem Ak: ∀ {a b:List Prop},AX (a++b)↔AX a/\AX b
 | [],b=>by simp [AX]
 | p::a,b=>by simp_all [AX,Ak,and_assoc]
abbrev CV:=Option (List Prop×V)
def Wo {α:Type} (b:Bool) (r:α):Option α:=match b with
 | true=>some r
 | false=>none
theorem BP {α:Type} {b:Bool} {r x:α} (h:Wo b r=some x):b=true/\r=x:=by cases b<;>simp [Wo]at h;grind
def AW (st:St) (g:Bool) (x:Operand):List Prop×V:=
 match st.ev x with
 | .g c v=>([g=true->c=true],v)
 | v=>([],v)
theorem O6 {st:St} {g:Bool} {x:Operand} (hl:AX (AW st g x).1):(st.arg g x).1/\(st.arg g x).2=(AW st g x).2:=by
 unfold AW at *;unfold St.arg;generalize st.ev x=e at *;cases e with
 | g c v=>exact⟨hl.1,rfl⟩
 | c _=>grind
 | agg _=>grind
 | tup _=>grind
 | undef=>grind
def Ip (st:St) (g:Bool):List Operand->List Prop×List V
 | []=>([],[])
 | x::xs=>((AW st g x).1++(Ip st g xs).1,(AW st g x).2::(Ip st g xs).2)
theorem Rk {st:St} {g:Bool}: ∀ {xs:List Operand},AX (Ip st g xs).1->(st.args g xs).1/\(st.args g xs).2=(Ip st g xs).2
 | [],_=>⟨trivial,rfl⟩
 | x::xs,hl=>by obtain⟨h1,h2⟩:=Ak.1 hl;have a:=O6 (st:=st) (g:=g) (x:=x) h1;have b:=Rk (st:=st) (g:=g) (xs:=xs) h2;simp only [St.args,Ip];exact⟨⟨a.1,b.1⟩,by rw [a.2,b.2]⟩
def eH:V->Option (Option Bool×Bool)
 | .c (.bool q)=>some (none,q)
 | .g c (.c (.bool q))=>some (some c,q)
 | _=>none
def tE (p:Prop):Option Bool->List Prop
 | none=>[]
 | some c=>[p->c=true]
theorem UQ {v:V} {c:Option Bool} {q:Bool} (h:eH v=some (c,q)):P9 v=some (c.getD true,q):=by
 unfold eH at h;split at h<;>simp at h
 ·obtain⟨rfl,rfl⟩:=h;rfl
 ·obtain⟨rfl,rfl⟩:=h;rfl
theorem W5 {p:Prop} {c:Option Bool} (h:AX (tE p c)):p->c.getD true=true:=by
 cases c with
 | none=>intro _;rfl
 | some c=>exact h.1
def AaD (l:List Prop) (p:Bool) (a b:V):CV:=
 match eH a,eH b with
 | some (ca,q),some (cb,r)=>some (l++(tE (p=true) ca++tE (p=false) cb), .c (.bool (if p then q else r)))
 | _,_=>none
def pj (P:Program) (t:TypeId) (st:St) (l:List Prop):V->CV
 | .c (.ptr id off)=>match KS P t,st.acr id with
   | some (ag,n),some e=>Wo (Nat.ble (off+n) e.cs.length&&(ag||Nat.blt 0 n)) (l,toV ag off n e.cs)
   | _,_=>none
 | .c (.aby cs off)=>match KS P t with
   | some (ag,n)=>Wo (Nat.ble (off+n) cs.length&&(ag||Nat.blt 0 n)) (l,toV ag off n cs)
   | _=>none
 | _=>none
theorem UR {P:Program} {t:TypeId} {st:St} {l l':List Prop} {x v:V} (h:pj P t st l x=some (l',v)):l=l'/\(DW P t st x).1/\(DW P t st x).2=v:=by
 unfold pj at h;unfold DW;split at h
 ·split at h
  ·rename_i ag n e h1 h2;obtain⟨hb,hr⟩:=BP h;simp_all
  ·cases h
 ·split at h
  ·rename_i ag n h1;obtain⟨hb,hr⟩:=BP h;simp_all
  ·cases h
 ·cases h
def tF (P:Program) (t:TypeId) (st:St) (l:List Prop) (u:V):V->CV
 | .c (.ptr id off)=>match KS P t,st.acr id with
   | some (ag,n),some e=>Wo (ag||Nat.blt 0 n) (l++[off+n<=e.cs.length/\toV ag off n e.cs=u],u)
   | _,_=>none
 | .c (.aby cs off)=>match KS P t with
   | some (ag,n)=>Wo (ag||Nat.blt 0 n) (l++[off+n<=cs.length/\toV ag off n cs=u],u)
   | _=>none
 | _=>none
theorem iU {P:Program} {t:TypeId} {st:St} {l l':List Prop} {x u v:V} (h:tF P t st l u x=some (l',v)) (hl:AX l'):AX l/\(DW P t st x).1/\(DW P t st x).2=v:=by
 unfold tF at h;unfold DW;split at h
 ·split at h
  ·rename_i ag n e h1 h2;obtain⟨hb,hr⟩:=BP h;simp only [injEq]at hr;obtain⟨rfl,rfl⟩:=hr;obtain⟨q1,q2,_⟩:=Ak.1 hl;simp_all
  ·cases h
 ·split at h
  ·rename_i ag n h1;obtain⟨hb,hr⟩:=BP h;simp only [injEq]at hr;obtain⟨rfl,rfl⟩:=hr;obtain⟨q1,q2,_⟩:=Ak.1 hl;simp_all
  ·cases h
 ·cases h
def kEq:BinOp->IntKind->IntKind->Bool
 | .shl,_,_ | .shr,_,_=>true
 | _,k,k'=>k==k'
theorem iV {op:BinOp} {k k':IntKind} (h:kEq op k k'=true):LY op k k':=by unfold kEq at h;grind [LY]
def Aby (op:BinOp) (b:Int):List Prop:=
 match op with
 | .quo | .rem =>[b ≠ 0]
 | .shl | .shr =>[0<=b]
 | _=>[]
theorem rl {op:BinOp} {k:IntKind} {a b:Int} (h:AX (Aby op b)):(KV op k a b).1:=by cases op<;>simp_all [Aby,KV,AX]
def Abz (op:BinOp) (a b:List UInt8):Option (List Prop):=
 match op with
 | .add =>some [a.length+b.length<=maxLen]
 | .eql | .neq | .lss | .leq | .gtr | .geq =>some []
 | _=>none
theorem rm {op:BinOp} {a b:List UInt8} {l:List Prop} (h:Abz op a b=some l) (hl:AX l):(LX op a b).1:=by cases op<;>simp_all [Abz,LX]<;>(subst h;exact hl.1)
def AbA (P:Program) (op:BinOp) (t:TypeId) (kc:Bool) (l:List Prop):V->V->CV
 | .c (.int k a), .c (.int k' b)=>Wo (kEq op k k') (l++Aby op b, .c (KV op k a b).2)
 | .c (.str a), .c (.str b)=>match Abz op a b with
   | some c=>some (l++c, .c (LX op a b).2)
   | none=>none
 | .agg cs, .agg ds=>match op with
   | .eql =>Wo (mv P t cs ds) (l, .c (.bool (B0 cs ds)))
   | .neq =>Wo (mv P t cs ds) (l, .c (.bool !(B0 cs ds)))
   | _=>none
 | x,y=>some (l++[(VI P op t kc x y).1],(VI P op t kc x y).2)
def MP (P:Program) (op:BinOp) (t:TypeId) (k:Bool) (x y:V):Prop×V:=
 match x,y with
 | .agg cs, .agg ds=>iN P op t cs ds
 | x,y=>VI P op t k x y
theorem mG {P:Program} {op:BinOp} {t:TypeId} {kc:Bool} {l l':List Prop} {x y v:V} (h:AbA P op t kc l x y=some (l',v)) (hl:AX l'):AX l/\(MP P op t kc x y).1/\(MP P op t kc x y).2=v:=by
 unfold AbA at h;split at h
 ·obtain⟨hb,hr⟩:=BP h;simp only [injEq]at hr;obtain⟨rfl,rfl⟩:=hr;obtain⟨q1,q2⟩:=Ak.1 hl;exact⟨q1,⟨iV hb,rl q2⟩,rfl⟩
 ·split at h
  ·rename_i c hc;simp only [Option.some.injEq,injEq]at h;obtain⟨rfl,rfl⟩:=h;obtain⟨q1,q2⟩:=Ak.1 hl;exact⟨q1,rm hc q2,rfl⟩
  ·cases h
 ·split at h
  ·obtain⟨hb,hr⟩:=BP h;simp only [injEq]at hr;exact⟨hr.1▸hl,hb,hr.2⟩
  ·obtain⟨hb,hr⟩:=BP h;simp only [injEq]at hr;exact⟨hr.1▸hl,hb,hr.2⟩
  ·cases h
 ·rename_i Tg;simp only [Option.some.injEq,injEq]at h;obtain⟨rfl,rfl⟩:=h;obtain⟨q1,q2⟩:=Ak.1 hl;have e:MP P op t kc x y=VI P op t kc x y:=by grind [MP]
  rw [e];exact⟨q1,q2.1,rfl⟩
def AbB (P:Program) (t:TypeId) (st:St) (l:List Prop) (x y:V):CV:=
 match y with
 | .c (.int _ i)=>match x with
   | .c (.sl len cs)=>match Dt P t with
     | some (_,n)=>some (l++[0<=i/\i<len], .c (.aby cs (i.toNat*n)))
     | none=>none
   | .c (.j_ id)=>match Dt P t,st.acr id with
     | some (_,n),some e=>match e.row with
       | some (_,_,len)=>some (l++[0<=i/\i<len], .c (.ptr id (i.toNat*n)))
       | none=>none
     | _,_=>none
   | .c (.bsl id off len)=>match Dt P t with
     | some (_,n)=>some (l++[0<=i/\i<len], .c (.ptr id (off+i.toNat*n)))
     | none=>none
   | .c (.ptr id off)=>match GK P t with
     | some (k,_,n)=>some (l++[0<=i/\i<k], .c (.ptr id (off+i.toNat*n)))
     | none=>none
   | .c (.aby cs off)=>match GK P t with
     | some (k,_,n)=>some (l++[0<=i/\i<k], .c (.aby cs (off+i.toNat*n)))
     | none=>none
   | _=>none
 | _=>none
theorem mH {P:Program} {t:TypeId} {st:St} {l l':List Prop} {x y v:V} (h:AbB P t st l x y=some (l',v)) (hl:AX l'):AX l/\(Cp P t st x y).1/\(Cp P t st x y).2=v:=by
 unfold AbB at h;unfold Cp;split at h
 ·split at h
  ·split at h
   ·rename_i h1;simp only [Option.some.injEq,injEq]at h;obtain⟨rfl,rfl⟩:=h;obtain⟨q1,q2,_⟩:=Ak.1 hl;grind
   ·cases h
  ·split at h
   ·rename_i h1 h2;split at h
    ·rename_i h3;simp only [Option.some.injEq,injEq]at h;obtain⟨rfl,rfl⟩:=h;obtain⟨q1,q2,_⟩:=Ak.1 hl;grind
    ·cases h
   ·cases h
  ·split at h
   ·rename_i h1;simp only [Option.some.injEq,injEq]at h;obtain⟨rfl,rfl⟩:=h;obtain⟨q1,q2,_⟩:=Ak.1 hl;grind
   ·cases h
  ·split at h
   ·rename_i h1;simp only [Option.some.injEq,injEq]at h;obtain⟨rfl,rfl⟩:=h;obtain⟨q1,q2,_⟩:=Ak.1 hl;grind
   ·cases h
  ·split at h
   ·rename_i h1;simp only [Option.some.injEq,injEq]at h;obtain⟨rfl,rfl⟩:=h;obtain⟨q1,q2,_⟩:=Ak.1 hl;grind
   ·cases h
  ·cases h
 ·cases h
def AbC (P:Program) (t:TypeId) (l:List Prop) (x:V) (lo hi:Option V):CV:=
 match x with
 | .c (.str s)=>match Z5 s.length lo hi with
   | some (a,h)=>Wo (FC P t) (l++[0<=a/\a<=h/\h<=s.length], .c (.str ((s.drop a.toNat).take (h.toNat - a.toNat))))
   | none=>none
 | .c (.sl len cs)=>match Dt P t,Z5 len lo hi with
   | some (_,n),some (a,h)=>some (l++[0<=a/\a<=h/\h<=len,cs.length=len*n], .c (.sl (h.toNat - a.toNat) ((cs.drop (a.toNat*n)).take ((h.toNat - a.toNat)*n))))
   | _,_=>none
 | .c (.ptr id off)=>match GK P t with
   | some (k,_,n)=>match Z5 k lo hi with
     | some (a,h)=>some (l++[0<=a/\a<k/\a<=h/\h<=k], .c (.bsl id (off+a.toNat*n) (h.toNat - a.toNat)))
     | none=>none
   | none=>none
 | _=>none
theorem mI {P:Program} {t:TypeId} {l l':List Prop} {x v:V} {lo hi:Option V} (h:AbC P t l x lo hi=some (l',v)) (hl:AX l'):AX l/\(Hq P t x lo hi).1/\(Hq P t x lo hi).2=v:=by
 unfold AbC at h;unfold Hq;split at h
 ·split at h
  ·rename_i a hh h1;obtain⟨hb,hr⟩:=BP h;simp only [injEq]at hr;obtain⟨rfl,rfl⟩:=hr;obtain⟨q1,q2,_⟩:=Ak.1 hl;grind
  ·cases h
 ·split at h
  ·rename_i h1 h2;simp only [Option.some.injEq,injEq]at h;obtain⟨rfl,rfl⟩:=h;obtain⟨q1,q2,q3,_⟩:=Ak.1 hl;grind
  ·cases h
 ·split at h
  ·rename_i h1;split at h
   ·rename_i h2;simp only [Option.some.injEq,injEq]at h;obtain⟨rfl,rfl⟩:=h;obtain⟨q1,q2,_⟩:=Ak.1 hl;grind
   ·cases h
  ·cases h
 ·cases h
def eJ (st:St) (g:Bool):Option Operand->List Prop×Option V
 | none=>([],none)
 | some x=>((AW st g x).1,some (AW st g x).2)
theorem xH {st:St} {g:Bool}: ∀ {x:Option Operand},AX (eJ st g x).1->(C9 st g x).1/\(C9 st g x).2=(eJ st g x).2
 | none,_=>⟨trivial,rfl⟩
 | some x,hl=>by grind [O6,C9,eJ]
def AbD (P:Program) (s:TypeId) (f:Nat) (l:List Prop):V->CV
 | .c (.ptr id off)=>match tw P s f with
   | some (o,_,n)=>Wo (Nat.blt 0 n) (l, .c (.ptr id (off+o)))
   | none=>none
 | .c (.aby cs off)=>match tw P s f with
   | some (o,_,n)=>Wo (Nat.blt 0 n) (l, .c (.aby cs (off+o)))
   | none=>none
 | _=>none
theorem mJ {P:Program} {s:TypeId} {f:Nat} {l l':List Prop} {x v:V} (h:AbD P s f l x=some (l',v)):l=l'/\(B6 P s f x).1/\(B6 P s f x).2=v:=by
 unfold AbD at h;unfold B6;split at h
 ·split at h
  ·rename_i h1;obtain⟨hb,hr⟩:=BP h;simp_all
  ·cases h
 ·split at h
  ·rename_i h1;obtain⟨hb,hr⟩:=BP h;simp_all
  ·cases h
 ·cases h
def mK (P:Program) (t:TypeId) (f:Nat) (l:List Prop):V->CV
 | .agg cs=>match tw P t f with
   | some (o,ag,n)=>Wo (Nat.ble (o+n) cs.length&&(ag||Nat.blt 0 n)) (l,toV ag o n cs)
   | none=>none
 | _=>none
theorem eK {P:Program} {s:TypeId} {f:Nat} {l l':List Prop} {x v:V} (h:mK P s f l x=some (l',v)):l=l'/\(JU P s f x).1/\(JU P s f x).2=v:=by
 unfold mK at h;unfold JU;split at h
 ·split at h
  ·rename_i h1;obtain⟨hb,hr⟩:=BP h;simp_all
  ·cases h
 ·cases h
def tG (P:Program) (t:TypeId) (l:List Prop) (x y:V) (u:Option V):CV:=
 match y with
 | .c (.int _ i)=>match x with
   | .c (.str s)=>Wo (FC P t) (l++[0<=i/\i<s.length], .c (.int .u8 (s.getD i.toNat 0).toNat))
   | .agg cs=>match GK P t with
     | some (k,e,n)=>match KS P e,u with
       | some (ag,_),some u=>Wo (Nat.blt 0 n) (l++[(0<=i/\i<k)/\i.toNat*n+n<=cs.length/\toV ag (i.toNat*n) n cs=u],u)
       | _,_=>none
     | none=>none
   | _=>none
 | _=>none
theorem iW {P:Program} {t:TypeId} {l l':List Prop} {x y v:V} {u:Option V} (h:tG P t l x y u=some (l',v)) (hl:AX l'):AX l/\(IW P t x y).1/\(IW P t x y).2=v:=by
 unfold tG at h;unfold IW;split at h
 ·split at h
  ·obtain⟨hb,hr⟩:=BP h;simp only [injEq]at hr;obtain⟨rfl,rfl⟩:=hr;obtain⟨q1,q2,_⟩:=Ak.1 hl;grind
  ·split at h
   ·rename_i h1;split at h
    ·rename_i h2;obtain⟨hb,hr⟩:=BP h;simp only [injEq]at hr;obtain⟨rfl,rfl⟩:=hr;obtain⟨q1,q2,_⟩:=Ak.1 hl;simp_all
    ·cases h
   ·cases h
  ·cases h
 ·cases h
def unC (op:UnOp) (l:List Prop):V->CV
 | .c (.int k n)=>match op with
   | .neg =>some (l, .c (.int k (k.wrap (0 - n))))
   | .xor =>some (l, .c (.int k (Q3 k (if k.signed then -1 else k.max) n)))
   | _=>none
 | .c (.bool b)=>match op with
   | .not =>some (l, .c (.bool !b))
   | _=>none
 | _=>none
theorem rn {op:UnOp} {l l':List Prop} {x v:V} (h:unC op l x=some (l',v)):l=l'/\(xq op x).1/\(xq op x).2=v:=by unfold unC at h;grind [xq]
def tH (P:Program) (src dst:TypeId) (st:St) (l:List Prop):V->CV
 | .c (.int _ n)=>match iw P dst with
   | some k=>Wo (xA P src) (l, .c (.int k (k.wrap n)))
   | none=>none
 | .c (.str s)=>Wo (FC P src&&FC P dst) (l, .c (.str s))
 | x=>some (l++[(KX P src dst st x).1],(KX P src dst st x).2)
theorem iX {P:Program} {src dst:TypeId} {st:St} {l l':List Prop} {x v:V} (h:tH P src dst st l x=some (l',v)) (hl:AX l'):AX l/\(KX P src dst st x).1/\(KX P src dst st x).2=v:=by
 unfold tH at h;split at h
 ·grind [KX,BP]
 ·grind [KX,BP]
 ·simp only [Option.some.injEq,injEq]at h;obtain⟨rfl,rfl⟩:=h;obtain⟨q1,q2,_⟩:=Ak.1 hl;grind
def AbE (P:Program) (t:TypeId) (st:St) (l:List Prop):V->CV
 | .c (.str s)=>Wo (FC P t) (l, .c (.int .i64 s.length))
 | .c (.sl len _)=>Wo (Fa P t) (l, .c (.int .i64 len))
 | .c (.j_ id)=>match st.acr id with
   | some e=>match e.row with
     | some (_,_,len)=>Wo (Fa P t) (l, .c (.int .i64 len))
     | none=>none
   | none=>none
 | x=>some (l++[(P7 P t st x).1],(P7 P t st x).2)
theorem mL {P:Program} {t:TypeId} {st:St} {l l':List Prop} {x v:V} (h:AbE P t st l x=some (l',v)) (hl:AX l'):AX l/\(P7 P t st x).1/\(P7 P t st x).2=v:=by
 unfold AbE at h;split at h
 ·obtain⟨hb,hr⟩:=BP h;simp only [injEq]at hr;exact⟨hr.1▸hl,hb,hr.2⟩
 ·obtain⟨hb,hr⟩:=BP h;simp only [injEq]at hr;exact⟨hr.1▸hl,hb,hr.2⟩
 ·grind [P7,BP]
 ·simp only [Option.some.injEq,injEq]at h;obtain⟨rfl,rfl⟩:=h;obtain⟨q1,q2,_⟩:=Ak.1 hl;grind
def xI (P:Program) (st:St) (g:Bool) (op:Op):Option V->CV
 | none=>some ([(D7 P st g op).1],(D7 P st g op).2)
 | some u=>some ([(D7 P st g op).1/\(D7 P st g op).2=u],u)
theorem Qe {P:Program} {st:St} {g:Bool} {u:Option V} {op:Op} {l:List Prop} {v:V} (h:xI P st g op u=some (l,v)) (hl:AX l):(D7 P st g op).1/\(D7 P st g op).2=v:=by
 cases u<;>simp only [xI,Option.some.injEq,injEq]at h<;>obtain⟨rfl,rfl⟩:=h
 ·exact⟨hl.1,rfl⟩
 ·exact hl.1
def op1 (P:Program) (st:St) (g:Bool) (u:Option V):Op->CV
 | .move x=>some (AW st g x)
 | .assign x=>some (AW st g x)
 | .pick c a b=>match (AW st g c).2 with
   | .c (.bool p)=>AaD (AW st g c).1 p (st.ev a) (st.ev b)
   | _=>none
 | .load t x=>match u with
   | none=>pj P t st (AW st g x).1 (AW st g x).2
   | some u=>tF P t st (AW st g x).1 u (AW st g x).2
 | .binOp op t x y _=>AbA P op t (BN x||BN y) ((AW st g x).1++(AW st g y).1) (AW st g x).2 (AW st g y).2
 | .unOp op _ x=>unC op (AW st g x).1 (AW st g x).2
 | .convert src dst x=>tH P src dst st (AW st g x).1 (AW st g x).2
 | .slice t x lo hi none=>AbC P t ((AW st g x).1++((eJ st g lo).1++(eJ st g hi).1)) (AW st g x).2 (eJ st g lo).2 (eJ st g hi).2
 | .fieldAddr s x f=>AbD P s f (AW st g x).1 (AW st g x).2
 | .field t x f=>mK P t f (AW st g x).1 (AW st g x).2
 | .indexAddr t x i=>AbB P t st ((AW st g x).1++(AW st g i).1) (AW st g x).2 (AW st g i).2
 | .index t x i=>tG P t ((AW st g x).1++(AW st g i).1) (AW st g x).2 (AW st g i).2 u
 | .call c=>match c.callee,c.args.toList,c.argTypes.toList with
   | .builtin .len,[x],[t]=>AbE P t st (AW st g x).1 (AW st g x).2
   | _,_,_=>xI P st g (.call c) none
 | op=>xI P st g op u
theorem ci {P:Program} {st:St} {g:Bool} {u:Option V} {op:Op} {l:List Prop} {v:V} (h:op1 P st g u op=some (l,v)) (hl:AX l):(D7 P st g op).1/\(D7 P st g op).2=v:=by
 have A: ∀ x,AX (AW st g x).1->(st.arg g x).1/\(st.arg g x).2=(AW st g x).2:=fun x hx=>O6 hx;have O: ∀ x,AX (eJ st g x).1->(C9 st g x).1/\(C9 st g x).2=(eJ st g x).2:=fun x hx=>xH hx;cases op<;>simp only [op1]at h<;>try exact Qe h hl
 case move x=>
  grind [D7,rd]
 case assign x=>
  grind [D7,rd]
 case pick c a b=>
  split at h
  ·rename_i p hp;unfold AaD at h;split at h
   ·rename_i ca q cb r h1 h2;simp only [Option.some.injEq,injEq]at h;obtain⟨rfl,rfl⟩:=h;obtain⟨q1,q2⟩:=Ak.1 hl;obtain⟨q2,q3⟩:=Ak.1 q2;obtain⟨k1,k2⟩:=A c q1;rw [hp]at k2;simp only [D7,rd,Q_,k2,WK,UQ h1,UQ h2];exact⟨⟨k1,W5 q2,W5 q3⟩,trivial⟩
   ·cases h
  ·cases h
 case load t x=>
  split at h
  ·have:=UR h;grind [D7,rd,Q_]
  ·have:=iU h hl;grind [D7,rd,Q_]
 case binOp op t x y ty=>
  have:=mG h hl;obtain⟨q1,q2⟩:=Ak.1 this.1;obtain⟨k1,k2⟩:=A x q1;obtain⟨k3,k4⟩:=A y q2;have e:D7 P st g (.binOp op t x y ty)=((st.arg g x).1/\(st.arg g y).1/\(MP P op t (BN x||BN y) (st.arg g x).2 (st.arg g y).2).1,(MP P op t (BN x||BN y) (st.arg g x).2 (st.arg g y).2).2):=by
   simp only [D7];unfold MP;split
   ·grind
   ·rename_i Tg;split
    ·grind
    ·rfl
  grind
 case unOp op t x=>
  have:=rn h;grind [D7,rd,Q_]
 case convert s d x=>
  have:=iX h hl;grind [D7,rd,Q_]
 case slice t x lo hi mx=>
  cases mx with
  | some m=>exact Qe h hl
  | none=>
    have:=mI h hl;grind [Ak,D7,rd,Q_]
 case fieldAddr s x f=>
  have:=mJ h;grind [D7,rd,Q_]
 case field s x f=>
  have:=eK h;grind [D7,rd,Q_]
 case indexAddr t x y=>
  have:=mH h hl;grind [Ak,D7,rd,Q_]
 case index t x y=>
  have:=iW h hl;grind [Ak,D7,rd,Q_]
 case call c=>
  split at h
  ·rename_i x t h1 h2 h3;have:=mL h hl;grind [D7,rd,Qa,Q_]
  ·exact Qe h hl
def opT (P:Program) (st:St) (g:Bool) (u:Option V) (op:Op):CV:=
 match u with
 | none=>op1 P st g none op
 | some u=>match op1 P st g (some u) op with
   | some (l,v)=>some (l++[v=u],u)
   | none=>none
theorem O7 {P:Program} {st:St} {g:Bool} {u:Option V} {op:Op} {l:List Prop} {v:V} (h:opT P st g u op=some (l,v)) (hl:AX l):(D7 P st g op).1/\(D7 P st g op).2=v:=by
 cases u with
 | none=>grind [opT,ci]
 | some u=>
   simp only [opT]at h;split at h
   ·rename_i l1 v1 h1;simp only [Option.some.injEq,injEq]at h;obtain⟨rfl,rfl⟩:=h;obtain⟨q1,q2,_⟩:=Ak.1 hl;grind [ci]
   ·cases h
end Go.PL
namespace Go.PL
open Go Go.RowKit
mutual
def C.i_ (p:Ah->Bool):C->Bool
 | .j_ i=>p i
 | .ptr i _=>p i
 | .bsl i _ _=>p i
 | .rsl i _ _ _=>p i
 | .bld i _=>p i
 | .afo i=>p i
 | .clo _ cs=>CO p cs
 | .bmv _ cs=>CO p cs
 | _=>false
def CO (p:Ah->Bool):List C->Bool
 | []=>false
 | c::cs=>c.i_ p||CO p cs
end
mutual
def V.i_ (p:Ah->Bool):V->Bool
 | .c x=>x.i_ p
 | .agg cs=>CO p cs
 | .tup vs=>N9 p vs
 | .g _ v=>v.i_ p
 | .undef =>false
def N9 (p:Ah->Bool):List V->Bool
 | []=>false
 | v::vs=>v.i_ p||N9 p vs
end
def Cy (p:Ah->Bool) (c:C):C:=if c.i_ p then .any else c
def Bz (p:Ah->Bool) (v:V):V:=if v.i_ p then .undef else v
def Au.e_ (p:Ah->Bool) (e:Au):Au:=match e with
 | ⟨i,r,cs,true⟩=>⟨i,r,cs,true⟩
 | ⟨i,r,cs,false⟩=>⟨i,r,cs.map (Cy p),false⟩
theorem Au.u_ (p:Ah->Bool) (e:Au):(e.e_ p).id =e.id:=by obtain⟨i,r,cs,_ | _⟩:=e<;>rfl
theorem Au.afs (p:Ah->Bool) (e:Au):(e.e_ p).pu =e.pu:=by obtain⟨i,r,cs,_ | _⟩:=e<;>rfl
mutual
theorem mM (p:Ah->Bool) (i:Ah): ∀ c:C,c.i_ p=false->c.p_ i=true->p i=false
 | .j_ _,h,k=>by simp_all [C.i_,C.p_]
 | .ptr _ _,h,k=>by simp_all [C.i_,C.p_]
 | .rsl _ _ _ _,h,k=>by simp_all [C.i_,C.p_]
 | .bsl _ _ _,h,k=>by simp_all [C.i_,C.p_]
 | .bld _ _,h,k=>by simp_all [C.i_,C.p_]
 | .afo _,h,k=>by simp_all [C.i_,C.p_]
 | .clo _ cs,h,k=>W6 p i cs (by simpa only [C.i_] using h) (by simpa only [C.p_] using k)
 | .bmv _ cs,h,k=>W6 p i cs (by simpa only [C.i_] using h) (by simpa only [C.p_] using k)
 | .int ..,_,k=>by simp [C.p_]at k
 | .bool _,_,k=>by simp [C.p_]at k
 | .str _,_,k=>by simp [C.p_]at k
 | .sl ..,_,k=>by simp [C.p_]at k
 | .aby ..,_,k=>by simp [C.p_]at k
 | .ab_,_,k=>by simp [C.p_]at k
 | .aag,_,k=>by simp [C.p_]at k
 | .L_,_,k=>by simp [C.p_]at k
 | .fn _,_,k=>by simp [C.p_]at k
 | .held,_,k=>by simp [C.p_]at k
 | .any,_,k=>by simp [C.p_]at k
 | .afy ..,_,k=>by simp [C.p_]at k
 | .mp _,_,k=>by simp [C.p_]at k
 | .isl ..,_,k=>by simp [C.p_]at k
theorem W6 (p:Ah->Bool) (i:Ah): ∀ cs:List C,CO p cs=false->BU i cs=true->p i=false
 | [],_,k=>by simp [BU]at k
 | c::cs,h,k=>by
   simp only [CO,or_eq_false_iff]at h;simp only [BU,or_eq_true]at k;rcases k with k | k
   ·exact mM p i c h.1 k
   ·exact W6 p i cs h.2 k
end
mutual
theorem eM (p:Ah->Bool) (i:Ah): ∀ v:V,v.i_ p=false->v.p_ i=true->p i=false
 | .c x,h,k=>(by grind [mM,V.i_,V.p_])
 | .agg cs,h,k=>(by grind [W6,V.i_,V.p_])
 | .tup vs,h,k=>pk p i vs (by simpa only [V.i_] using h) (by simpa only [V.p_] using k)
 | .g b v,h,k=>by simp only [V.p_,and_eq_true]at k;exact eM p i v (by simpa only [V.i_] using h) k.1
 | .undef,_,k=>by simp [V.p_]at k
theorem pk (p:Ah->Bool) (i:Ah): ∀ vs:List V,N9 p vs=false->LA i vs=true->p i=false
 | [],_,k=>by simp [LA]at k
 | v::vs,h,k=>by
   simp only [N9,or_eq_false_iff]at h;simp only [LA,or_eq_true]at k;rcases k with k | k
   ·exact eM p i v h.1 k
   ·exact pk p i vs h.2 k
end
theorem W7 {p:Ah->Bool} {i:Ah} {c:C} (h:(Cy p c).p_ i=true):p i=false:=by grind [Cy,C.p_,mM]
theorem W8 {p:Ah->Bool} {i:Ah}: ∀ {cs:List C},BU i (cs.map (Cy p))=true->p i=false
 | [],h=>by simp [BU]at h
 | c::cs,h=>by
   simp only [map_cons,BU,or_eq_true]at h;rcases h with h | h
   ·exact W7 h
   ·exact W8 h
theorem Ka {p:Ah->Bool} {i:Ah} {v:V} (h:(Bz p v).p_ i=true):p i=false:=by grind [Bz,V.p_,eM]
theorem US {p:Ah->Bool} {i:Ah}: ∀ {vs:List V},LA i (vs.map (Bz p))=true->p i=false
 | [],h=>by simp [LA]at h
 | v::vs,h=>by
   simp only [map_cons,LA,or_eq_true]at h;rcases h with h | h
   ·exact Ka h
   ·exact US h
theorem W9 {w:World} {G:AF} {p:Ah->Bool} {c:C} {v:Value} (h:Ae w G c v):Ae w G (Cy p c) v:=by
 unfold Cy;split
 ·simp only [Ae];exact h.one
 ·exact h
theorem MQ {w:World} {G:AF} {p:Ah->Bool}: ∀ {cs:List C} {b o:Nat},Al w G cs b o->Al w G (cs.map (Cy p)) b o
 | [],_,_,_=>by grind
 | c::cs,b,o,h=>by simp only [Al,map_cons]at h ⊢;exact⟨h.1.imp fun v q=>⟨q.1,W9 q.2⟩,MQ h.2⟩
theorem Kb {w:World} {G:AF} {p:Ah->Bool} {x:V} {v:Value} (h:Ab w G x v):Ab w G (Bz p x) v:=by grind [Bz,Ab]
theorem UT {w:World} {G:AF} {p:Ah->Bool}: ∀ {xs:List V} {vs:List Value},As w G xs vs->As w G (xs.map (Bz p)) vs
 | [],vs,h=>by grind
 | x::xs,vs,h=>by simp only [As,map_cons]at h ⊢;obtain⟨v,r,e,h1,h2⟩:=h;exact⟨v,r,e,Kb h1,UT h2⟩
theorem tI {p:Ah->Bool} {kv:List (Int×Int)}:[C.mp kv].map (Cy p)=[C.mp kv]:=by simp [Cy,C.i_]
theorem mN {w:World} {G:AF} {p:Ah->Bool} {e:Au} (h:Ba w G e):Ba w G (e.e_ p):=by
 obtain⟨i,r,cs,pu⟩:=e;cases pu with
 | true=>exact h
 | false=>
 unfold Ba at *;cases r with
 | none=>
   obtain⟨b,h1,h2⟩:=h;refine⟨b,h1,?_⟩;rcases h2 with ⟨kv,es,h2,h3⟩ | ⟨T,cur,h2,h3,h4⟩
   ·dsimp only [Au.e_]at h2 ⊢;rw [h2,tI];exact .inl ⟨kv,es,rfl,h3⟩
   ·exact .inr ⟨T,cur,h2,by simpa [Au.e_] using h3,MQ h4⟩
 | some q=>
   obtain⟨E,n,len⟩:=q;obtain⟨hl,v,h1,h2⟩:=h;refine⟨by grind [Au.e_],v,h1,?_⟩;rcases h2 with h2 | ⟨b,cap,cur,e1,e2,e3,e4,e5,e6,e7⟩
   ·exact .inl h2
   ·exact .inr ⟨b,cap,cur,e1,e2,e3,e4,e5,e6,MQ e7⟩
theorem tJ {p:Ah->Bool} {i:Ah} {e:Au} (hp:e.pu=true->Am e.cs=true) (h:BU i (e.e_ p).cs =true):p i=false:=by
 obtain⟨j,r,cs,pu⟩:=e;cases pu with
 | true=>rw [show (Au.e_ p ⟨j,r,cs,true⟩).cs =cs from rfl,AQ i cs (hp rfl)]at h;cases h
 | false=>exact W8 (cs:=cs) h
theorem By.e_ {w:World} {G:AF} {p:Ah->Bool} {e:Au} (h:By w G e):By w G (e.e_ p):=by
 obtain⟨i,r,cs,pu⟩:=e;cases pu with
 | true=>exact h
 | false=>exact⟨h.1,fun hd=>absurd (h.2 hd).1 (by simp)⟩
theorem Qf {p:Ah->Bool} {e:Au} (h:e.pu=true->Am e.cs=true):(e.e_ p).pu =true->Am (e.e_ p).cs =true:=by
 obtain⟨i,r,cs,pu⟩:=e;cases pu with
 | true=>exact h
 | false=>intro hq;cases hq
theorem tK (cs:List C):CO (fun _=>false) cs=false:=by
 have key: ∀ c:C,c.i_ (fun _=>false)=false:=by intro c;induction c using C.rec (motive_2:=fun cs=>CO (fun _=>false) cs=false)<;>simp_all [C.i_,CO]
 induction cs<;>grind [CO]
theorem xJ (c:C):c.i_ (fun _=>false)=false:=by have:=tK [c];simpa [CO] using this
theorem cj: ∀ cs:List C,cs.map (Cy (fun _=>false))=cs
 | []=>rfl
 | c::cs=>by rw [map_cons,cj cs,Cy,if_neg (by simp [xJ])]
theorem Au.amQ (e:Au):e.e_ (fun _=>false)=e:=by
 obtain⟨i,r,cs,_ | _⟩:=e
 all_goals grind [Au.e_,cj]
structure aaf (F:Fr) (p q:Ah->Bool) (G G':AF) (w w':World):Prop where
 agree: ∀ i,p i=false->G'.o_ i=G.o_ i/\G'.own i=G.own i
 same: ∀ i b,q i=false->G.o_ i=some b->w'.heap[b]? =w.heap[b]?
 keeps:Cu G G' w w'
 outer:N3 w w'
 ext: ∀ b,b<F.w0.heap.size-> ¬F.old b->w'.heap[b]? =w.heap[b]?
 wr: ∀ b,G'.wr b↔F.av b\/ ∃ i,G'.o_ i=some b
 inj: ∀ i j b,G'.o_ i=some b->G'.o_ j=some b->i=j
 lt: ∀ i b,G'.o_ i=some b->b<w'.heap.size
 new: ∀ i b,G'.o_ i=some b->F.w0.heap.size<=b\/F.old b
def St.e_ (st:St) (p:Ah->Bool) (so:List Au):St:={tm:=st.tm.map (Bz p),so:=so,gh:=st.gh.map (Bz p),pre:=st.pre}
section
variable {F:Fr} {st:St} {a:Act} {w w':World} {G G':AF} {p q:Ah->Bool}
theorem aaf.ent (h:R F st a w G) (t:aaf F p q G G' w w') {e:Au} (he:e∈st.so) (hp:p e.id=false) (hq:q e.id=false):Ba w' G' (e.e_ p):=by
 refine CF t.keeps (fun i hi=>t.agree i (tJ (h.y_ e he) hi)) ?_ ?_ (mN (h.store e he))
 ·rw [Au.u_];exact t.agree _ hp
 ·intro b hb;rw [Au.u_]at hb;exact t.same _ b hq hb
theorem aaf.deep (h:R F st a w G) (t:aaf F p q G G' w w') {e:Au} (he:e∈st.so) (hp:p e.id=false) (hq:q e.id=false) (hm:Ep e.id=true-> ∀ k,p (BR k e.id)=false/\q (BR k e.id)=false):By w' G' (e.e_ p):=by
 refine By.mono t.keeps (by rw [Au.u_];exact t.agree _ hp) (fun hd k=>?_) ?_ (fun hd k b hb=>?_) (h.deep e he).e_
 ·rw [Au.u_]at hd ⊢;exact t.agree _ (hm hd k).1
 ·intro b hb;rw [Au.u_]at hb;exact t.same _ b hq hb
 ·rw [Au.u_]at hd hb;exact t.same _ b (hm hd k).2 hb
theorem aaf.rel (h:R F st a w G) (t:aaf F p q G G' w w') (a_:St) (hl:a_.tm.length=st.tm.length) (hs: ∀ i,Ab w' G' (a_.tm.getD i .undef) (a.tmps.getD i Go.undef)) (hg:As w' G' a_.gh F.gv)
 (h1: ∀ e∈a_.so,Ba w' G' e) (h2: ∀ e∈a_.so,By w' G' e) (h3: ∀ e∈a_.so,e.pu=true->Am e.cs=true) (h4:(a_.so.map (·.id)).Nodup):R F a_ a w' G' where
 dfr:=h.dfr
 size:=by rw [hl];exact h.size
 w_:=hs
 I_:=hg
 store:=h1
 deep:=h2
 y_:=h3
 nodup:=h4
 inj:=t.inj
 lt:=t.lt
 new:=t.new
 wr:=t.wr
 aaJ:=h.aaJ
 inv:=h.inv
 aae:=h.aae
 os:=t.outer.os.trans h.os
 tape:=t.outer.tape.trans h.tape
 output:=t.outer.output.trans h.output
 v_:=Nat.le_trans h.v_ t.keeps.size
 ext:=fun b hb ho=>(t.ext b hb ho).trans (h.ext b hb ho)
theorem aaf.aeX (h:R F st a w G) (t:aaf F p q G G' w w') (so:List Au)
 (h1: ∀ e∈so,Ba w' G' e) (h2: ∀ e∈so,By w' G' e) (h3: ∀ e∈so,e.pu=true->Am e.cs=true) (h4:(so.map (·.id)).Nodup):R F (st.e_ p so) a w' G':=by
 refine t.rel h (st.e_ p so) (by simp [St.e_]) (fun i=>?_) ?_ h1 h2 h3 h4
 ·simp only [St.e_];rw [Gl (by simp [Bz,V.i_])];exact Ab.mono t.keeps _ _ (fun i hi=>t.agree i (Ka hi)) (Kb (h.w_ i))
 ·exact As.mono t.keeps _ _ (fun i hi=>t.agree i (US hi)) (UT h.I_)
theorem aaf.kept (h:R F st a w G) (t:aaf F (fun _=>false) q G G' w w') (so:List Au)
 (h1: ∀ e∈so,Ba w' G' e) (h2: ∀ e∈so,By w' G' e) (h3: ∀ e∈so,e.pu=true->Am e.cs=true) (h4:(so.map (·.id)).Nodup):R F {st with so:=so} a w' G':=
 t.rel h {st with so:=so} rfl (fun i=>Ab.mono t.keeps _ _ (fun i _=>t.agree i rfl) (h.w_ i)) (As.mono t.keeps _ _ (fun i _=>t.agree i rfl) h.I_) h1 h2 h3 h4
theorem iY (h:R F st a w G) {i0:Ah} {b:Nat} (hb:G.o_ i0=some b) {cur:Array Value} {T:TypeId} (hh:w.heap[b]? =some (.cells cur T (0,0))) (row:Array Value):aaf F (fun _=>false) (· ==i0) G G w (w.setRow b row) where
 agree:=(by grind)
 same:=fun i b' hi hb'=>setRow_other w b b' _ (fun e=>by have:=h.inj i i0 b' hb' (by grind);grind)
 keeps:=⟨by simp,fun k _ hw=>setRow_other w b k _ (fun e=>hw ((h.wr k).2 (by grind))),fun _ _ q=>q,fun i k h1 _=>by
  by_cases hkb:k=b
  ·subst hkb;intro ac8 T' fz' hq;rw [hh]at hq;injection hq with hq;injection hq with _ hq _;subst hq;exact⟨_,_,setRow_heap w k cur row T (0,0) hh⟩
  grind [Co.same,setRow_other]⟩
 outer:=⟨by simp,by simp,by simp⟩
 ext:=fun k hk ho=>setRow_other w b k _ (fun e=>by
  rcases h.new i0 b hb with q | q
  all_goals grind)
 wr:=h.wr
 inj:=h.inj
 lt:=fun i k hi=>by simpa using h.lt i k hi
 new:=h.new
theorem Hv (h:R F st a w G) (G':AF) (hw:G'.wr=fun b=>F.av b\/ ∃ i,G'.o_ i=some b) (ha: ∀ i,p i=false->G'.o_ i=G.o_ i/\G'.own i=G.own i) (hs: ∀ i b,G'.o_ i=some b-> ∃ j,G.o_ j=some b)
 (hi: ∀ i j b,G'.o_ i=some b->G'.o_ j=some b->i=j):aaf F p (fun _=>false) G G' w w where
 agree:=ha
 same:=fun _ _ _ _=>rfl
 keeps:=⟨le_refl _,fun _ _ _=>rfl,fun b _ hb=>by rw [hw]at hb;rw [h.wr];grind,fun _ _ _ _=>Co.same rfl⟩
 outer:=⟨rfl,rfl,rfl⟩
 ext:=fun _ _ _=>rfl
 wr:=fun b=>by rw [hw]
 inj:=hi
 lt:=fun i b hb=>by obtain⟨j,hj⟩:=hs i b hb;exact h.lt j b hj
 new:=fun i b hb=>by obtain⟨j,hj⟩:=hs i b hb;exact h.new j b hj
theorem R.uniq (h:R F st a w G) {d e:Au} (hd:d∈st.so) (he:e∈st.so) (hi:d.id=e.id):d=e:=by have:=List.pairwise_map.1 h.nodup;rcases mem_iff_getElem.1 hd with ⟨i,hi1,rfl⟩;rcases mem_iff_getElem.1 he with ⟨j,hj1,rfl⟩;grind [List.pairwise_iff_getElem]
end
def St.K_ (st:St) (id:Ah):Option Au:=st.so.find? (fun e=>e.id==id&&Ep e.id)
theorem O8 {st:St} {id:Ah} {e:Au} (h:st.K_ id=some e):e∈st.so/\e.id=id/\Ep id=true:=by have:=find?_some h;simp only [and_eq_true,beq_iff_eq]at this;exact⟨List.mem_of_find?_eq_some h,this.1,by grind⟩
def Tp (id:Ah) (row:Option (TypeId×Nat×Nat)) (cells:List C) (e:Au):Au:=match e.id==id with
 | true=>⟨e.id,row,cells,e.pu⟩
 | false=>e
theorem eN (id:Ah) (row:Option (TypeId×Nat×Nat)) (cells:List C) (e:Au):(Tp id row cells e).id =e.id:=by grind [Tp]
theorem El {id:Ah} {row:Option (TypeId×Nat×Nat)} {cells:List C} {e:Au} (h:e.id ≠ id):Tp id row cells e=e:=by grind [Tp]
theorem Em {id:Ah} {row:Option (TypeId×Nat×Nat)} {cells:List C} {e:Au} (h:e.id=id):Tp id row cells e=⟨e.id,row,cells,e.pu⟩:=by grind [Tp]
def DM (id:Ah):Ah->Bool
 | m::_::j=>Nat.beq m 1000007&&j==id
 | _=>false
theorem IZ (id:Ah) (k:Nat) (j:Ah):DM id (BR k j)=(j==id):=by simp [DM,BR]
theorem K3 {w:World} {G:AF}: ∀ {cs:List C} {b o j:Nat} {c:C},Al w G cs b o->(∀ v d,cs[j]? =some d->w.cell? ⟨b,o+j,none⟩=some v->Ae w G d v->Ae w G c v)->Al w G (cs.set j c) b o
 | [],_,_,_,_,h,_=>by grind
 | d::cs,b,o,0,c,h,hc=>by grind [Al]
 | d::cs,b,o,j+1,c,h,hc=>by simp only [Al]at h;simp only [List.set_cons_succ,Al];exact⟨h.1,K3 h.2 (fun v d hd hv=>hc v d (by simpa using hd) (by rw [show o+(j+1)=o+1+j by omega];exact hv))⟩
section
variable {F:Fr} {st:St} {a:Act} {w w':World} {G G':AF} {p q:Ah->Bool}
theorem R.aaU (h:R F st a w G) {id:Ah} {e:Au} (hl:st.K_ id=some e):e∈st.so/\e.id=id/\Ep id=true/\CM id=false/\e.pu=true/\Am e.cs=true/\E9 w G e/\ ∃ E n len,e.row=some (E,n,len):=by obtain⟨hm,hid,hd⟩:=O8 hl;obtain⟨h1,h2⟩:=h.deep e hm;obtain⟨h3,h4,h5⟩:=h2 (by rw [hid];exact hd);refine⟨hm,hid,hd,by grind,h3,h.y_ e hm h3,h5,?_⟩;cases hr:e.row<;>grind
theorem R.inner (h:R F st a w G) {id:Ah} {e:Au} (hl:st.K_ id=some e) {k n len:Nat} {E:TypeId} {cs:List C} (hk:e.cs[k]? =some (.isl E n len cs)):
 Am cs=true/\Ba w G ⟨BR k id,some (E,n,len),cs,true⟩/\ ∃ b v,G.o_ id=some b/\w.cell? ⟨b,k,none⟩=some v/\G.own (BR k id)=some v:=by
 obtain⟨hm,hid,hd,_,_,_,hi,_⟩:=h.aaU hl;have:=hi k E n len cs hk;grind
theorem R.adv (h:R F st a w G) {id:Ah} {e:Au} (hl:st.K_ id=some e) {b:Nat} (hb:G.o_ id=some b): ∃ E n len v cap cur,e.row=some (E,n,len)/\e.cs.length=len*n/\G.own id=some v/\v= .slice (some ⟨b,0,none⟩) len cap/\w.heap[b]? =some (.cells cur E (0,0))/\len<=cap/\cap<=maxLen/\cur.size=cap*n/\Al w G e.cs b 0:=by obtain⟨hm,hid,_,_,_,_,_,E,n,len,hr⟩:=h.aaU hl;have hE:=h.store e hm;grind [Ba]
theorem aaf.akI (h:R F st a w G) (t:aaf F p q G G' w w') {id:Ah} {e:Au} (hl:st.K_ id=some e) (f:Au->Bool) (hf: ∀ d∈st.so,f d=true->d.id ≠ id->p d.id=false/\q d.id=false/\(Ep d.id=true-> ∀ k,p (BR k d.id)=false/\q (BR k d.id)=false))
 {cells:List C} {row:Option (TypeId×Nat×Nat)} (hrs:row.isSome=true) (h1:Ba w' G' ⟨id,row,cells,true⟩) (h2:E9 w' G' ⟨id,row,cells,true⟩) (h3:Am cells=true):
 (∀ d∈((st.so.filter f).map (Au.e_ p)).map (Tp id row cells),Ba w' G' d)/\(∀ d∈((st.so.filter f).map (Au.e_ p)).map (Tp id row cells),By w' G' d)/\
 (∀ d∈((st.so.filter f).map (Au.e_ p)).map (Tp id row cells),d.pu=true->Am d.cs=true)/\((((st.so.filter f).map (Au.e_ p)).map (Tp id row cells)).map (·.id)).Nodup :=by
 obtain⟨hm,hid,hd,hmk,hpu,hpe,hi,E,n,len,hr⟩:=h.aaU hl;have key: ∀ d∈((st.so.filter f).map (Au.e_ p)).map (Tp id row cells),(d=⟨id,row,cells,true⟩)\/ ∃ x∈st.so,f x=true/\x.id ≠ id/\d=x.e_ p:=by
  intro d hd;simp only [map_map,mem_map,mem_filter,Function.comp]at hd;obtain⟨x,⟨hx,hfx⟩,rfl⟩:=hd;by_cases hxi:x.id=id
  ·have:=h.uniq hx hm (hxi.trans hid.symm);subst this;left;have hk:x.e_ p=x:=by obtain⟨i,r,cs,pu⟩:=x;simp only at hpu;subst hpu;rfl
   grind [Em]
  grind [El,Au.u_]
 refine⟨fun d hd'=>?_,fun d hd'=>?_,fun d hd'=>?_,?_⟩
 ·rcases key d hd' with rfl | ⟨x,hx,hfx,hxi,rfl⟩
  ·exact h1
  ·obtain⟨k1,k2,_⟩:=hf x hx hfx hxi;exact t.ent h hx k1 k2
 ·rcases key d hd' with rfl | ⟨x,hx,hfx,hxi,rfl⟩
  ·exact⟨hmk,fun _=>⟨rfl,hrs,h2⟩⟩
  ·obtain⟨k1,k2,k3⟩:=hf x hx hfx hxi;exact t.deep h hx k1 k2 k3
 ·rcases key d hd' with rfl | ⟨x,hx,hfx,hxi,rfl⟩
  ·grind
  ·exact Qf (h.y_ x hx)
 ·have:(((st.so.filter f).map (Au.e_ p)).map (Tp id row cells)).map (·.id)=(st.so.filter f).map (·.id):=by simp_all [eN,Au.u_]
  rw [this];exact List.Sublist.nodup (by grind [filter_sublist]) h.nodup
theorem Rl (l:List Au):l.map (Au.e_ fun _=>false)=l:=by induction l<;>grind [Au.amQ]
end
end Go.PL
namespace Go.PL
open Go Go.RowKit
section
variable {F:Fr} {st:St} {a:Act} {w w':World} {G G':AF} {p q:Ah->Bool}
theorem K4 (l:List Au):l.filter (fun _=>true)=l:=(by simp_all)
theorem CQ {id j:Ah} (h:CM id=false) (k:Nat):id ≠ BR k j:=fun e=>by rw [e]at h;cases h
theorem UU (h:R F st a w G) {i0:Ah} (d:Au) (hd:d∈st.so) (Tg:d.id ≠ i0) (hmk: ∀ k,Ep d.id=true->BR k d.id ≠ i0):
 (fun _=>false:Ah->Bool) d.id=false/\(d.id==i0)=false/\(Ep d.id=true-> ∀ k,(fun _=>false:Ah->Bool) (BR k d.id)=false/\(BR k d.id==i0)=false):=
 (by grind)
def St.aeu (st:St) (id:Ah) (row:Option (TypeId×Nat×Nat)) (cells:List C):St:={st with so:=st.so.map (Tp id row cells)}
theorem R.agd (h:R F st a w G) {id:Ah} {e:Au} (hl:st.K_ id=some e) {k n len:Nat} {E:TypeId} {cs:List C} (hk:e.cs[k]? =some (.isl E n len cs)) {b:Nat} (hb:G.o_ (BR k id)=some b)
 {off:Nat} {xs:List C} {vs:List Value} (hx:Ai w G xs vs) (ace:off+xs.length<=cs.length) (hp:Am xs=true):
 ∃ cur T,w.heap[b]? =some (.cells cur T (0,0))/\off+vs.length<=cur.size/\
   R F (st.aeu id e.row (e.cs.set k (.isl E n len (cs.take off++xs++cs.drop (off+xs.length))))) a (w.setRow b (cur.toList.take off++vs++cur.toList.drop (off+vs.length)).toArray) G:=by
 obtain⟨hm,hid,hd,hmk,hpu,hpe,hi,E0,n0,ag1,hr⟩:=h.aaU hl;obtain⟨hpc,hE,bo,vo,hbo,abq,aah⟩:=h.inner hl hk;unfold Ba at hE;obtain⟨hcl,v,h1,h2 | ⟨b',cap,cur,e1,e2,e3,e4,e5,e6,e7⟩⟩:=hE
 ·grind
 rw [show (⟨BR k id,some (E,n,len),cs,true⟩:Au).id =BR k id from rfl]at h1 e2;rw [hb]at e2;injection e2 with e2;subst e2;obtain⟨us,r1,r2⟩:=e7.list;simp only at r1 e7 hcl;have hlx:=hx.length;have hlu:=r1.length;have hle:cs.length<=cur.size:=by simp_all [Nat.mul_le_mul_right]
 have alY:=H9 e3 r2;refine⟨cur,E,e3,by omega,?_⟩;have t:=iY h hb e3 (cur.toList.take off++vs++cur.toList.drop (off+vs.length)).toArray;have aam:=setRow_heap w b cur (cur.toList.take off++vs++cur.toList.drop (off+vs.length)).toArray E (0,0) e3;have ahe:(us.take off++vs++us.drop (off+vs.length))++cur.toList.drop us.length=(cur.toList.take off++vs++cur.toList.drop (off+vs.length)).toArray.toList :=by grind
 have ahf:=BE aam ahe;have hl2:Ai w G (cs.take off++xs++cs.drop (off+xs.length)) (us.take off++vs++us.drop (off+vs.length)):=by rw [hlx];exact((r1.take off).append hx).append (r1.drop _)
 have ad6:=Al.aau (Ai.mono t.keeps _ _ (fun _ _=>⟨rfl,rfl⟩) hl2) ahf;have hlen:(cs.take off++xs++cs.drop (off+xs.length)).length =cs.length:=by simp;omega
 have aqY:(cur.toList.take off++vs++cur.toList.drop (off+vs.length)).toArray.size =cur.size:=by simp;omega
 have hpx:Am (cs.take off++xs++cs.drop (off+xs.length))=true:=by grind [BZ,MI,MJ]
 have Tg:bo ≠ b:=fun q=>CQ hmk k (h.inj _ _ bo hbo (by rw [q];exact hb));have hcs: ∀ o,(w.setRow b (cur.toList.take off++vs++cur.toList.drop (off+vs.length)).toArray).cell? ⟨bo,o,none⟩=w.cell? ⟨bo,o,none⟩:=(by grind [W_,setRow_other]);obtain⟨E1,n1,ajj,v1,abN,ahS,g1,g2,g3,g4,g5,g6,g7,g8,g9⟩:=h.adv hl hbo;have hcells:Am (e.cs.set k (.isl E n len (cs.take off++xs++cs.drop (off+xs.length))))=true:=by
  rw [Cn,all_eq_true]at hpe ⊢;intro c hc;rcases List.mem_or_eq_of_mem_set hc with q | q
  ·grind
  ·rw [q];rfl
 have aez:Ba (w.setRow b (cur.toList.take off++vs++cur.toList.drop (off+vs.length)).toArray) G ⟨id,e.row,e.cs.set k (.isl E n len (cs.take off++xs++cs.drop (off+xs.length))),true⟩:=by unfold Ba;rw [g1];refine⟨by grind,v1,g3, .inr ⟨bo,abN,ahS,g4,hbo,by grind [setRow_other],g6,g7,g8,?_⟩⟩;refine K3 (Al.mono t.keeps _ _ _ (fun _ _=>⟨rfl,rfl⟩) hcs g9) (fun u d hd _ hrd=>?_);grind [Ae]
 have hin:E9 (w.setRow b (cur.toList.take off++vs++cur.toList.drop (off+vs.length)).toArray) G ⟨id,e.row,e.cs.set k (.isl E n len (cs.take off++xs++cs.drop (off+xs.length))),true⟩:=by
  intro j E2 n2 abf cs2 hj;simp only [getElem?_set]at hj;split at hj
  ·rename_i hkj;subst hkj;split at hj
   ·injection hj with hj;injection hj with q1 q2 q3 q4;subst q1 q2 q3 q4;refine⟨hpx,?_,bo,vo,hbo,by grind,aah⟩;unfold Ba;exact⟨by grind,v,h1, .inr ⟨b,cap,_,e1,hb,aam,e4,e5,by grind,ad6⟩⟩
   ·cases hj
  ·rename_i hkj;obtain⟨k1,k2,b2,v2,k3,k4,k5⟩:=h.inner hl hj;refine⟨k1,CF t.keeps (fun _ _=>⟨rfl,rfl⟩) ⟨rfl,rfl⟩ (fun b3 hb3=>setRow_other w b b3 _ (fun q=>?_)) k2,b2,v2,k3,?_,k5⟩
   ·have:=h.inj _ _ b3 hb3 (by rw [q];exact hb);grind [Q1]
   grind
 have Ts:=t.akI h hl (fun _=>true) (fun d hd' _ ac7=>UU h d hd' (fun q2=>CQ (h.deep d hd').1 k q2) (by grind [Q1])) (by rw [g1];rfl) aez hin hcells;rw [K4,Rl]at Ts;exact t.kept h _ Ts.1 Ts.2.1 Ts.2.2.1 Ts.2.2.2
def lZ:C->Bool
 | .isl .. =>false
 | _=>true
theorem R.acP (h:R F st a w G) {id:Ah} {e:Au} (hl:st.K_ id=some e) {b:Nat} (hb:G.o_ id=some b)
 {off:Nat} {xs:List C} {vs:List Value} (hx:Ai w G xs vs) (ace:off+xs.length<=e.cs.length) (hp:Am xs=true) (hn:xs.all lZ=true):
 ∃ cur T,w.heap[b]? =some (.cells cur T (0,0))/\off+vs.length<=cur.size/\
   R F (st.aeu id e.row (e.cs.take off++xs++e.cs.drop (off+xs.length))) a (w.setRow b (cur.toList.take off++vs++cur.toList.drop (off+vs.length)).toArray) G:=by
 obtain⟨hm,hid,hd,hmk,hpu,hpe,hi,E0,n0,ag1,hr⟩:=h.aaU hl;obtain⟨E,n,len,v,cap,cur,g1,g2,g3,g4,g5,g6,g7,g8,g9⟩:=h.adv hl hb;obtain⟨us,r1,r2⟩:=g9.list;have hlx:=hx.length;have hlu:=r1.length;have hle:e.cs.length<=cur.size:=by simp_all [Nat.mul_le_mul_right]
 have alY:=H9 g5 r2;refine⟨cur,E,g5,by omega,?_⟩;have t:=iY h hb g5 (cur.toList.take off++vs++cur.toList.drop (off+vs.length)).toArray;have aam:=setRow_heap w b cur (cur.toList.take off++vs++cur.toList.drop (off+vs.length)).toArray E (0,0) g5;have ahe:(us.take off++vs++us.drop (off+vs.length))++cur.toList.drop us.length=(cur.toList.take off++vs++cur.toList.drop (off+vs.length)).toArray.toList :=by grind
 have ahf:=BE aam ahe;have hl2:Ai w G (e.cs.take off++xs++e.cs.drop (off+xs.length)) (us.take off++vs++us.drop (off+vs.length)):=by rw [hlx];exact((r1.take off).append hx).append (r1.drop _)
 have ad6:=Al.aau (Ai.mono t.keeps _ _ (fun _ _=>⟨rfl,rfl⟩) hl2) ahf;have hlen:(e.cs.take off++xs++e.cs.drop (off+xs.length)).length =e.cs.length:=by simp;omega
 have aqY:(cur.toList.take off++vs++cur.toList.drop (off+vs.length)).toArray.size =cur.size:=by simp;omega
 have hpx:Am (e.cs.take off++xs++e.cs.drop (off+xs.length))=true:=by grind [BZ,MI,MJ]
 have aez:Ba (w.setRow b (cur.toList.take off++vs++cur.toList.drop (off+vs.length)).toArray) G ⟨id,e.row,e.cs.take off++xs++e.cs.drop (off+xs.length),true⟩:=by unfold Ba;rw [g1];exact⟨by grind,v,g3, .inr ⟨b,cap,_,g4,hb,aam,g6,g7,by grind,ad6⟩⟩
 have hin:E9 (w.setRow b (cur.toList.take off++vs++cur.toList.drop (off+vs.length)).toArray) G ⟨id,e.row,e.cs.take off++xs++e.cs.drop (off+xs.length),true⟩:=by
  intro j E2 n2 abf cs2 hj;simp only at hj;have hj2:(j<off\/off+xs.length<=j)/\e.cs[j]? =some (.isl E2 n2 abf cs2):=by
   rw [append_assoc]at hj;have htl:(e.cs.take off).length =off:=by grind
   by_cases q1:j<off
   ·grind
   ·rw [getElem?_append_right (by omega),htl]at hj;by_cases q2:j<off+xs.length
    ·rw [List.getElem?_append_left (by omega)]at hj;have:=all_eq_true.1 hn _ (mem_of_getElem? hj);cases this
    grind
  obtain⟨k1,k2,b2,v2,k3,k4,k5⟩:=h.inner hl hj2.2;rw [hb]at k3;injection k3 with k3;subst k3;refine⟨k1,CF t.keeps (fun _ _=>⟨rfl,rfl⟩) ⟨rfl,rfl⟩ (fun b3 hb3=>setRow_other w b b3 _ (fun q=>?_)) k2,b,v2,hb,?_,k5⟩
  ·exact CQ hmk j (h.inj _ _ b hb (by rw [<-q];exact hb3))
  ·have hjl:j<e.cs.length:=(by grind);simp only [World.cell?,aam];simp only [World.cell?,g5]at k4;have hold:cur.toList[j]? =some v2:=by grind
   have htl:(cur.toList.take off).length =off:=by grind
   have:(cur.toList.take off++vs++cur.toList.drop (off+vs.length))[j]? =some v2:=by
    rw [append_assoc];rcases hj2.1 with q1 | q1
    ·grind
    ·rw [getElem?_append_right (by omega),htl,getElem?_append_right (by omega),List.getElem?_drop];grind
   grind
 have Ts:=t.akI h hl (fun _=>true) (fun d hd' _ ac7=>UU h d hd' ac7 (by grind [CQ])) (by rw [g1];rfl) aez hin hpx;rw [K4,Rl]at Ts;exact t.kept h _ Ts.1 Ts.2.1 Ts.2.2.1 Ts.2.2.2
theorem FD {id i:Ah} (h:DM id i=true):CM i=true:=by
 match i,h with
 | m::k::j,h=>
   simp only [DM,and_eq_true]at h;exact h.1
theorem pm {id i:Ah} (h:DM id i=true): ∃ k,i=BR k id:=by
 match i,h with
 | m::k::j,h=>
   simp only [DM,and_eq_true,beq_iff_eq]at h;have h1:=eq_of_beq_eq_true h.1;subst h1;rw [h.2];exact⟨k,rfl⟩
def pD (r id i:Ah):Bool:=i==r||DM id i
theorem tL (h:R F st a w G) {r id:Ah} (hr:CM r=false) {d:Au} (hd:d∈st.so) (h1:d.id ≠ r) (h2:d.id ≠ id):pD r id d.id=false/\(Ep d.id=true-> ∀ k,pD r id (BR k d.id)=false/\(fun _=>false:Ah->Bool) (BR k d.id)=false):=by
 refine⟨?_,fun _ k=>⟨?_,rfl⟩⟩
 ·unfold pD;rw [show (d.id==r)=false by simpa using h1,Bool.false_or];cases hq:DM id d.id with
  | false=>rfl
  | true=>
    have:=FD hq;rw [(h.deep d hd).1]at this;cases this
 ·unfold pD;rw [show (BR k d.id==r)=false by simpa using (CQ hr k).symm,Bool.false_or,IZ];grind
theorem R.alA (h:R F st a w G) {id r:Ah} {e er:Au} (hl:st.K_ id=some e) (hr:st.look r=some er) {E:TypeId} {n len:Nat} (A_:er.row=some (E,n,len)) (hpr:er.pu=true)
 {k b:Nat} {v:Value} (hb:G.o_ id=some b) (hc:w.cell? ⟨b,k,none⟩=some v) (ho:G.own r=some v) (hk:k<e.cs.length):
 ∃ G',R F (st.e_ (pD r id) (((st.so.filter (fun d=>d.id != r)).map (Au.e_ (pD r id))).map (Tp id e.row (e.cs.set k (.isl E n len er.cs))))) a w G'/\G'.own id=G.own id/\G'.o_ id=G.o_ id/\ ∀ i,pD r id i=false->G'.o_ i=G.o_ i/\G'.own i=G.own i:=by
 obtain⟨hm,hid,hd,hmk,hpu,hpe,hi,E0,n0,ag1,hr0⟩:=h.aaU hl;obtain⟨hmr,af0⟩:=Bi hr;have akG:=FP hr;have ajv:CM r=false:=by rw [<-af0];exact(h.deep er hmr).1
 have ajt:r ≠ id:=(by grind);have hpc:=h.y_ er hmr hpr;let G':AF:=⟨fun i=>if i=r then none else if i=BR k id then G.o_ r else G.o_ i,fun i=>if i=r then none else if i=BR k id then G.own r else G.own i,fun b=>F.av b\/ ∃ i,(if i=r then none else if i=BR k id then G.o_ r else G.o_ i)=some b⟩;have hag: ∀ i,pD r id i=false->G'.o_ i=G.o_ i/\G'.own i=G.own i:=by intro i hpi;simp only [pD,or_eq_false_iff,beq_eq_false_iff_ne]at hpi;have h2:i ≠ BR k id:=(by grind [IZ]);grind
 have t:aaf F (pD r id) (fun _=>false) G G' w w:=Hv h G' rfl hag (by grind) (fun i j b hib hjb=>by
  simp only [G']at hib hjb;split at hib
  ·cases hib
  ·rename_i q1;split at hjb
   ·cases hjb
   ·rename_i q2;split at hib<;>split at hjb
    ·simp_all
    ·exact absurd (h.inj _ _ b hjb hib) q2
    ·exact absurd (h.inj _ _ b hib hjb) q1
    ·exact h.inj _ _ b hib hjb)
 have Tg:id ≠ BR k id:=CQ hmk k;have gid:G'.o_ id=G.o_ id/\G'.own id=G.own id:=(by grind);have gk:G'.o_ (BR k id)=G.o_ r/\G'.own (BR k id)=G.own r:=by have:BR k id ≠ r:=(CQ ajv k).symm;grind
 have gj: ∀ j,j ≠ k->G'.o_ (BR j id)=G.o_ (BR j id)/\G'.own (BR j id)=G.own (BR j id):=by intro j hj;have h1:BR j id ≠ r:=(CQ ajv j).symm;have h2:BR j id ≠ BR k id:=fun q=>hj (Q1 q).1;grind
 obtain⟨E1,n1,ajj,v1,abN,ahS,g1,g2,g3,g4,g5,g6,g7,g8,g9⟩:=h.adv hl hb;have hcells:Am (e.cs.set k (.isl E n len er.cs))=true:=by
  rw [Cn,all_eq_true]at hpe ⊢;intro c hc;rcases List.mem_or_eq_of_mem_set hc with q | q
  ·grind
  ·rw [q];rfl
 have hno: ∀ cs:List C,Am cs=true->JR (fun i=>BU i cs=true) G G':=fun cs hp i hi'=>absurd (show BU i cs=true from hi') (by rw [AQ i cs hp];simp);have aez:Ba w G' ⟨id,e.row,e.cs.set k (.isl E n len er.cs),true⟩:=by unfold Ba;rw [g1];refine⟨by grind,v1,by grind, .inr ⟨b,abN,ahS,g4,by grind,g5,g6,g7,g8,?_⟩⟩;refine K3 (Al.mono t.keeps _ _ _ (hno _ hpe) (fun _=>rfl) g9) (fun u d _ _ hrd=>?_);simp only [Ae];exact hrd.one
 have hin:E9 w G' ⟨id,e.row,e.cs.set k (.isl E n len er.cs),true⟩:=by
  intro j E2 n2 abf cs2 hj;simp only [getElem?_set]at hj;split at hj
  ·rename_i hkj;subst hkj
   ·injection hj with hj;injection hj with q1 q2 q3 q4;subst q1 q2 q3 q4;refine⟨hpc,?_,b,v,by grind,hc,by grind⟩;have hE:=h.store er hmr;unfold Ba at hE ⊢;rw [A_]at hE;obtain⟨c1,v2,c2,c3⟩:=hE;refine⟨c1,v2,by grind,?_⟩;rcases c3 with ⟨p,c3,c4,c5⟩ | ⟨b',cap,cur,e1,e2,e3,e4,e5,e6,e7⟩
    ·grind
    ·exact .inr ⟨b',cap,cur,e1,by grind,e3,e4,e5,e6,Al.mono t.keeps _ _ _ (hno _ hpc) (fun _=>rfl) e7⟩
  ·rename_i hkj;obtain⟨k1,k2,b2,v2,k3,k4,k5⟩:=h.inner hl hj;have gjj:=gj j (fun q=>hkj q.symm);exact⟨k1,CF t.keeps (hno _ k1) gjj (fun _ _=>rfl) k2,b2,v2,by grind,k4,by grind⟩
 have Ts:=t.akI h hl (fun d=>d.id != r) (fun d hd' hf ac7=>by have:=tL h (id:=id) ajv hd' (by simpa using hf) ac7;grind) (by rw [g1];rfl) aez hin hcells
 exact⟨G',t.aeX h _ Ts.1 Ts.2.1 Ts.2.2.1 Ts.2.2.2,gid.2,gid.1,hag⟩
theorem R.anz (h:R F st a w G) {id r:Ah} {e er:Au} (hl:st.K_ id=some e) (hr:st.look r=some er) {E:TypeId} {n len:Nat} (A_:er.row=some (E,n,len)) (hpr:er.pu=true)
 {k b:Nat} {v:Value} (hb:G.o_ id=some b) (hc:w.cell? ⟨b,k,none⟩=some v) (ho:G.own r=some v) (hk:k<e.cs.length):
 ∃ G',R F (st.e_ (pD r id) (((st.so.filter (fun d=>d.id != r)).map (Au.e_ (pD r id))).map (Tp id e.row (e.cs.set k (.isl E n len er.cs))))) a w G'/\G'.own id=G.own id:=by
 obtain⟨G',a,b,_⟩:=h.alA hl hr A_ hpr hb hc ho hk;grind
theorem R.extract (h:R F st a w G) {id r:Ah} {e:Au} (hl:st.K_ id=some e) {k n len:Nat} {E:TypeId} {cs:List C} (hk:e.cs[k]? =some (.isl E n len cs)) (ajv:CM r=false) (akG:Ep r=false):
 ∃ G',R F (st.e_ (pD r id) (⟨r,some (E,n,len),cs,true⟩::((st.so.filter (fun d=>d.id != r)).map (Au.e_ (pD r id))).map (Tp id e.row (e.cs.set k .any)))) a w G'/\
   ∃ b v,G.o_ id=some b/\w.cell? ⟨b,k,none⟩=some v/\G'.own r=some v/\v.oneCell'=true:=by
 obtain⟨hm,hid,hd,hmk,hpu,hpe,hi,E0,n0,ag1,hr0⟩:=h.aaU hl;obtain⟨hpc,hE,b,v,hb,hc,ho⟩:=h.inner hl hk;have ajt:r ≠ id:=(by grind);let G':AF:=⟨fun i=>if i=r then G.o_ (BR k id)else if i=BR k id then none else G.o_ i,fun i=>if i=r then G.own (BR k id)else if i=BR k id then none else G.own i,fun b=>F.av b\/ ∃ i,(if i=r then G.o_ (BR k id)else if i=BR k id then none else G.o_ i)=some b⟩;have hag: ∀ i,pD r id i=false->G'.o_ i=G.o_ i/\G'.own i=G.own i:=by intro i hpi;simp only [pD,or_eq_false_iff,beq_eq_false_iff_ne]at hpi;have h2:i ≠ BR k id:=(by grind [IZ]);grind
 have t:aaf F (pD r id) (fun _=>false) G G' w w:=Hv h G' rfl hag (by grind) (fun i j b hib hjb=>by
  simp only [G']at hib hjb;split at hib<;>split at hjb
  ·simp_all
  ·split at hjb
   ·cases hjb
   ·rename_i q2 q3;exact absurd (h.inj _ _ b hjb hib) q3
  ·split at hib
   ·cases hib
   ·rename_i q3;exact absurd (h.inj _ _ b hib hjb) q3
  ·split at hib
   ·cases hib
   ·split at hjb
    ·cases hjb
    ·exact h.inj _ _ b hib hjb)
 have Tg:id ≠ BR k id:=CQ hmk k;have gid:G'.o_ id=G.o_ id/\G'.own id=G.own id:=(by grind);have gr:G'.o_ r=G.o_ (BR k id)/\G'.own r=G.own (BR k id):=(by grind);have gj: ∀ j,j ≠ k->G'.o_ (BR j id)=G.o_ (BR j id)/\G'.own (BR j id)=G.own (BR j id):=by intro j hj;have h1:BR j id ≠ r:=(CQ ajv j).symm;have h2:BR j id ≠ BR k id:=fun q=>hj (Q1 q).1;grind
 obtain⟨E1,n1,ajj,v1,abN,ahS,g1,g2,g3,g4,g5,g6,g7,g8,g9⟩:=h.adv hl hb;have hcells:Am (e.cs.set k .any)=true:=by
  rw [Cn,all_eq_true]at hpe ⊢;intro c hc;rcases List.mem_or_eq_of_mem_set hc with q | q
  ·grind
  ·rw [q];rfl
 have hno: ∀ cs:List C,Am cs=true->JR (fun i=>BU i cs=true) G G':=fun cs hp i hi'=>absurd (show BU i cs=true from hi') (by rw [AQ i cs hp];simp);have aez:Ba w G' ⟨id,e.row,e.cs.set k .any,true⟩:=by unfold Ba;rw [g1];refine⟨by grind,v1,by grind, .inr ⟨b,abN,ahS,g4,by grind,g5,g6,g7,g8,?_⟩⟩;refine K3 (Al.mono t.keeps _ _ _ (hno _ hpe) (fun _=>rfl) g9) (fun u d _ _ hrd=>?_);grind [Ae]
 have hin:E9 w G' ⟨id,e.row,e.cs.set k .any,true⟩:=by
  intro j E2 n2 abf cs2 hj;simp only [getElem?_set]at hj;split at hj
  ·grind
  ·rename_i hkj;obtain⟨k1,k2,b2,v2,k3,k4,k5⟩:=h.inner hl hj;have gjj:=gj j (fun q=>hkj q.symm);exact⟨k1,CF t.keeps (hno _ k1) gjj (fun _ _=>rfl) k2,b2,v2,by grind,k4,by grind⟩
 have Ts:=t.akI h hl (fun d=>d.id != r) (fun d hd' hf ac7=>by have:=tL h (id:=id) ajv hd' (by simpa using hf) ac7;grind) (by rw [g1];rfl) aez hin hcells
 have acy:v.oneCell'=true:=by unfold Ba at hE;obtain⟨_,v2,c2,c3⟩:=hE;rw [show (⟨BR k id,some (E,n,len),cs,true⟩:Au).id =BR k id from rfl,ho]at c2;injection c2 with c2;subst c2;rcases c3 with ⟨p,rfl,_⟩ | ⟨b',cap,cur,rfl,_⟩<;>rfl
 refine⟨G',t.aeX h _ ?_ ?_ ?_ ?_,b,v,hb,hc,by grind,acy⟩
 ·intro x hx;rcases mem_cons.1 hx with rfl | hx
  ·unfold Ba at hE ⊢;obtain⟨c1,v2,c2,c3⟩:=hE;refine⟨c1,v2,by grind,?_⟩;rcases c3 with ⟨p,c3,c4,c5⟩ | ⟨b',cap,cur,e1,e2,e3,e4,e5,e6,e7⟩
   ·grind
   ·exact .inr ⟨b',cap,cur,e1,by grind,e3,e4,e5,e6,Al.mono t.keeps _ _ _ (hno _ hpc) (fun _=>rfl) e7⟩
  grind
 ·intro x hx;rcases mem_cons.1 hx with rfl | hx
  all_goals grind [By.an_]
 ·grind
 ·rw [map_cons];refine nodup_cons.2 ⟨?_,Ts.2.2.2⟩;simp only [map_map,mem_map,mem_filter,Function.comp,eN,Au.u_,not_exists,not_and];grind
theorem R.alu (h:R F st a w G) {r id:Ah} {er:Au} (hr:st.look r=some er) {E:TypeId} {n len:Nat} (A_:er.row=some (E,n,len)) (hpr:er.pu=true) (hn:er.cs.all lZ=true) (hd:Ep id=true) (hmk:CM id=false):
 ∃ G',R F (st.e_ (fun i=>i==r||(i==id||DM id i)) (⟨id,some (E,n,len),er.cs,true⟩::((st.so.filter (fun d=>d.id != r&&d.id != id)).map (Au.e_ (fun i=>i==r||(i==id||DM id i)))))) a w G'/\G'.own id=G.own r/\ ∀ i,i ≠ r->i ≠ id->G'.own i=G.own i:=by
 obtain⟨hmr,af0⟩:=Bi hr;have akG:=FP hr;have ajv:CM r=false:=by rw [<-af0];exact(h.deep er hmr).1
 have ajt:r ≠ id:=(by grind);have hpc:=h.y_ er hmr hpr;let G':AF:=⟨fun i=>if i=r then none else if i=id then G.o_ r else G.o_ i,fun i=>if i=r then none else if i=id then G.own r else G.own i,fun b=>F.av b\/ ∃ i,(if i=r then none else if i=id then G.o_ r else G.o_ i)=some b⟩;have t:aaf F (fun i=>i==r||(i==id||DM id i)) (fun _=>false) G G' w w:=Hv h G' rfl (by grind) (by grind) (fun i j b hib hjb=>by
  simp only [G']at hib hjb;split at hib
  ·cases hib
  ·rename_i q1;split at hjb
   ·cases hjb
   ·rename_i q2;split at hib<;>split at hjb
    ·simp_all
    ·exact absurd (h.inj _ _ b hjb hib) q2
    ·exact absurd (h.inj _ _ b hib hjb) q1
    ·exact h.inj _ _ b hib hjb)
 have gid:G'.o_ id=G.o_ r/\G'.own id=G.own r:=(by grind);have hno: ∀ cs:List C,Am cs=true->JR (fun i=>BU i cs=true) G G':=fun cs hp i hi'=>absurd (show BU i cs=true from hi') (by rw [AQ i cs hp];simp);have hp: ∀ d∈st.so,d.id ≠ r->d.id ≠ id->(fun i=>i==r||(i==id||DM id i)) d.id=false/\(Ep d.id=true-> ∀ k,(fun i=>i==r||(i==id||DM id i)) (BR k d.id)=false/\(fun _=>false:Ah->Bool) (BR k d.id)=false):=by
  intro d hd' h1 h2;have hof:DM id d.id=false:=by
   cases hq:DM id d.id with
   | false=>rfl
   | true=>
     have:=FD hq;rw [(h.deep d hd').1]at this;cases this
  refine⟨by grind,fun _ k=>⟨?_,rfl⟩⟩;grind [CQ,IZ]
 refine⟨G',t.aeX h _ ?_ ?_ ?_ ?_,gid.2,(by grind)⟩
 ·intro x hx;rcases mem_cons.1 hx with rfl | hx
  ·have hE:=h.store er hmr;unfold Ba at hE ⊢;rw [A_]at hE;obtain⟨c1,v2,c2,c3⟩:=hE;refine⟨c1,v2,by grind,?_⟩;rcases c3 with ⟨p,c3,c4,c5⟩ | ⟨b',cap,cur,e1,e2,e3,e4,e5,e6,e7⟩
   ·grind
   ·exact .inr ⟨b',cap,cur,e1,by grind,e3,e4,e5,e6,Al.mono t.keeps _ _ _ (hno _ hpc) (fun _=>rfl) e7⟩
  ·simp only [mem_map,mem_filter,and_eq_true,bne_iff_ne]at hx;obtain⟨y,⟨hy,h1,h2⟩,rfl⟩:=hx;exact t.ent h hy (hp y hy h1 h2).1 rfl
 ·intro x hx;rcases mem_cons.1 hx with rfl | hx
  ·refine⟨hmk,fun _=>⟨rfl,rfl,fun k E2 n2 abf cs2 hk=>?_⟩⟩;have:=all_eq_true.1 hn _ (mem_of_getElem? hk);cases this
  ·simp only [mem_map,mem_filter,and_eq_true,bne_iff_ne]at hx;obtain⟨y,⟨hy,h1,h2⟩,rfl⟩:=hx;exact t.deep h hy (hp y hy h1 h2).1 rfl (hp y hy h1 h2).2
 ·intro x hx;rcases mem_cons.1 hx with rfl | hx
  ·grind
  ·simp only [mem_map,mem_filter]at hx;obtain⟨y,⟨hy,_⟩,rfl⟩:=hx;exact Qf (h.y_ y hy)
 ·rw [map_cons];refine nodup_cons.2 ⟨?_,?_⟩
  ·simp only [map_map,mem_map,mem_filter,Function.comp,Au.u_,not_exists,not_and,and_eq_true,bne_iff_ne];grind
  ·simp only [map_map,Function.comp_def,Au.u_];exact List.Sublist.nodup (by grind [filter_sublist]) h.nodup
theorem R.anl (h:R F st a w G) {r id:Ah} {er:Au} (hr:st.look r=some er) {E:TypeId} {n len:Nat} (A_:er.row=some (E,n,len)) (hpr:er.pu=true) (hn:er.cs.all lZ=true) (hd:Ep id=true) (hmk:CM id=false):
 ∃ G',R F (st.e_ (fun i=>i==r||(i==id||DM id i)) (⟨id,some (E,n,len),er.cs,true⟩::((st.so.filter (fun d=>d.id != r&&d.id != id)).map (Au.e_ (fun i=>i==r||(i==id||DM id i)))))) a w G'/\G'.own id=G.own r:=by
 obtain⟨G',q1,q2,_⟩:=h.alu hr A_ hpr hn hd hmk;grind
theorem tM (h:R F st a w G) (id:Ah) (nb:Option Nat) (nv:Option Value) (ho:N3 w w') (hs:w.heap.size<=w'.heap.size) (abm: ∀ b,b<w.heap.size->(G.o_ id ≠ some b)->w'.heap[b]? =w.heap[b]?)
 (am_: ∀ b,b<F.w0.heap.size-> ¬F.old b->w'.heap[b]? =w.heap[b]?)
 (hn: ∀ b,nb=some b->(w.heap.size<=b\/(G.o_ id=some b/\Co w w' b))/\b<w'.heap.size):aaf F (· ==id) (· ==id) G (Ci F G id nb nv) w w' where
 agree:=(by grind [Ci])
 same:=fun i b hi hb=>abm b (h.lt i b hb) (fun q=>by have:=h.inj i id b hb q;grind)
 keeps:=h.keeps id nb nv hs abm (by grind)
 outer:=ho
 ext:=am_
 wr:=fun b=>Iff.rfl
 inj:=by
  intro i j b hi hj;simp only [Ci]at hi hj;split at hi<;>split at hj
  ·simp_all
  ·rename_i q1 q2;rcases (hn b hi).1 with q | q
   ·exact absurd (h.lt j b hj) (by omega)
   ·exact absurd (h.inj j id b hj q.1) q2
  ·rename_i q1 q2;rcases (hn b hj).1 with q | q
   ·exact absurd (h.lt i b hi) (by omega)
   ·exact absurd (h.inj i id b hi q.1) q1
  ·exact h.inj i j b hi hj
 lt:=by
  intro i b hi;simp only [Ci]at hi;split at hi
  ·grind
  ·exact Nat.lt_of_lt_of_le (h.lt i b hi) hs
 new:=by
  intro i b hi;simp only [Ci]at hi;split at hi
  ·rcases (hn b hi).1 with q | q
   ·grind
   ·exact h.new id b q.1
  ·exact h.new i b hi
theorem R.afC (h:R F st a w G) {id:Ah} {e:Au} (hl:st.K_ id=some e) {E n len m:Nat} (A_:e.row=some (E,n,len))
 {v v':Value} {xs us:List Value} {cs:List C} (hob:v.ownBlock=G.o_ id) (h1:Ai w G e.cs xs) (h2:Ai w G cs us) (hxc: ∀ b j u,G.o_ id=some b->xs[j]? =some u->w.cell? ⟨b,j,none⟩=some u)
 (hold:w.ownsRow 0 E n v len xs) (aam:w'.ownsRow 0 E n v' (len+m) (xs++us)) (hg:w.grownBy w' v.ownBlock) (hfr:v'.ownBlock=v.ownBlock\/ ∀ b,v'.ownBlock=some b->w.heap.size<=b)
 (hp:Am cs=true) (hn:cs.all lZ=true):
 R F (st.e_ (· ==id) ((st.so.map (Au.e_ (· ==id))).map (Tp id (some (E,n,len+m)) (e.cs++cs)))) a w' (Ci F G id v'.ownBlock (some v'))/\v'.oneCell'=true:=by
 obtain⟨hm,hid,hd,hmk,hpu,hpe,hi,_⟩:=h.aaU hl;have abm: ∀ b,b<w.heap.size->G.o_ id ≠ some b->w'.heap[b]? =w.heap[b]? :=fun b hb Tg=>hg.block b hb (by grind);have hnb: ∀ b,v'.ownBlock=some b->w.heap.size<=b\/(G.o_ id=some b/\Co w w' b):=by
  intro b hb;rcases hfr with q | q
  ·refine .inr ⟨by grind,?_⟩;have hb2:v.ownBlock=some b:=by grind
   intro cur T fz hc;rcases aam.2 with ⟨r,_⟩ | ⟨g,cap,ac8,r,_,r2,_⟩
   ·rw [r]at hb;cases hb
   ·rw [r]at hb;simp only [Value.ownBlock,Option.some.injEq]at hb;subst hb;rcases hold.2 with ⟨r3,_⟩ | ⟨g3,aum,auk,r3,_,r4,_⟩
    all_goals grind [Value.ownBlock]
  grind
 have hlt: ∀ b,v'.ownBlock=some b->b<w'.heap.size:=fun b hb=>(aam.lt b hb).2;have acy:v'.oneCell'=true:=by rcases aam.2 with ⟨q,_⟩ | ⟨g,cap,cur,q,_⟩<;>rw [q]<;>rfl
 have t:=tM h id v'.ownBlock (some v') ⟨hg.os,hg.tape,hg.output⟩ hg.size abm (fun b hb apx=>by
  refine abm b (Nat.lt_of_lt_of_le hb h.v_) (fun q=>?_);rcases h.new id b q with q2 | q2
  all_goals grind) (by grind)
 have hpx:Am (e.cs++cs)=true:=by rw [BZ,hpe,hp];rfl
 have hl1:=h1.length;have hl2:=h2.length;have hln:=aam.1;have hno: ∀ cs:List C,Am cs=true->JR (fun i=>BU i cs=true) G (Ci F G id v'.ownBlock (some v')):=fun cs hp i hi'=>absurd (show BU i cs=true from hi') (by rw [AQ i cs hp];simp);have gid:(Ci F G id v'.ownBlock (some v')).o_ id=v'.ownBlock/\(Ci F G id v'.ownBlock (some v')).own id=some v':=by simp [Ci]
 have gj: ∀ j,(Ci F G id v'.ownBlock (some v')).o_ (BR j id)=G.o_ (BR j id)/\(Ci F G id v'.ownBlock (some v')).own (BR j id)=G.own (BR j id):=fun j=>t.agree _ (by grind [CQ]);have aez:Ba w' (Ci F G id v'.ownBlock (some v')) ⟨id,some (E,n,len+m),e.cs++cs,true⟩:=by
  unfold Ba;refine⟨by grind,v',gid.2,?_⟩;rcases aam.2 with ⟨q,h0⟩ | ⟨g,cap,cur,q,_,q2,q3,q4,q5,q6⟩
  ·exact .inl ⟨none,q,h0,by rw [gid.1,q];rfl⟩
  ·refine .inr ⟨g,cap,cur,q,by rw [gid.1,q];rfl,q2,q3,q4,q5,?_⟩;refine Al.aau (vs:=xs++us) (Ai.mono t.keeps _ _ (hno _ hpx) (h1.append h2)) ?_;grind [BE,take_append_drop]
 have hin:E9 w' (Ci F G id v'.ownBlock (some v')) ⟨id,some (E,n,len+m),e.cs++cs,true⟩:=by
  intro j E2 n2 abf cs2 hj;simp only at hj;have hj2:e.cs[j]? =some (.isl E2 n2 abf cs2):=by
   by_cases q:j<e.cs.length
   ·grind
   ·rw [getElem?_append_right (by omega)]at hj;have:=all_eq_true.1 hn _ (mem_of_getElem? hj);cases this
  have hjl:j<e.cs.length:=(by grind);obtain⟨k1,k2,b2,v2,k3,k4,k5⟩:=h.inner hl hj2;have hxj:xs[j]? =some v2:=by grind
  refine⟨k1,CF t.keeps (hno _ k1) (gj j) (fun b hb=>abm b (h.lt _ b hb) (fun q=>CQ hmk j (h.inj _ _ b q hb))) k2,?_⟩;rcases aam.2 with ⟨q,h0⟩ | ⟨g,cap,cur,q,_,q2,q3,q4,q5,q6⟩
  ·grind
  ·refine⟨g,v2,by rw [gid.1,q];rfl,?_,by grind⟩;have hr:=BE q2 (us:=xs++us) (rest:=cur.toList.drop ((len+m)*n)) (by rw [<-q6,take_append_drop]);have:=hr j v2 (by grind);grind
 have Ts:=t.akI h hl (fun _=>true) (by grind [CQ]) rfl aez hin hpx;rw [K4]at Ts;exact⟨t.aeX h _ Ts.1 Ts.2.1 Ts.2.2.1 Ts.2.2.2,acy⟩
def Py:C->C
 | .isl _ _ len cs=> .sl len cs
 | c=>c
def pF (id i:Ah):Bool:=i==id||DM id i
def SW (id:Ah) (len:Nat) (cells:List C):C->C
 | .j_ i=>match i==id with
   | true=> .sl len cells
   | false=>Cy (pF id) (.j_ i)
 | c=>Cy (pF id) c
def Pz (id:Ah) (len:Nat) (cells:List C):V->V
 | .c x=> .c (SW id len cells x)
 | .agg cs=> .agg (cs.map (SW id len cells))
 | v=>Bz (pF id) v
def Au.frD (id:Ah) (len:Nat) (cells:List C) (e:Au):Au:=match e with
 | ⟨i,r,cs,true⟩=>⟨i,r,cs,true⟩
 | ⟨i,r,cs,false⟩=>⟨i,r,cs.map (SW id len cells),false⟩
def St.frD (st:St) (id:Ah) (len:Nat) (cells:List C):St:={tm:=st.tm.map (Pz id len cells),so:=(st.so.filter (fun d=>d.id != id)).map (Au.frD id len cells),gh:=st.gh.map (Pz id len cells),pre:=st.pre}
theorem Wp {id:Ah} {len:Nat} {cells:List C} {c:C} (h: ∀ i,c= .j_ i->i ≠ id):SW id len cells c=Cy (pF id) c:=by
 cases c<;>simp only [SW]
 grind
theorem pn {id:Ah} {len:Nat} {cells:List C}:SW id len cells (.j_ id)= .sl len cells:=by simp only [SW,beq_self_eq_true]
theorem Xa {id:Ah} {len:Nat} {cells:List C} (hk:Cu G G' w w') (ha: ∀ i,pF id i=false->G'.o_ i=G.o_ i/\G'.own i=G.own i) (ho: ∀ v,G.own id=some v->Ae w' G' (.sl len cells) v) {c:C} {v:Value} (h:Ae w G c v):Ae w' G' (SW id len cells c) v:=by
 by_cases hc:c= .j_ id
 ·grind [pn,Ae]
 ·rw [Wp (fun i q hi=>hc (by rw [q,hi]))];exact Ae.mono hk _ _ (fun i hi=>ha i (W7 hi)) (W9 h)
theorem iZ {id:Ah} {len:Nat} {cells:List C} (hk:Cu G G' w w') (ha: ∀ i,pF id i=false->G'.o_ i=G.o_ i/\G'.own i=G.own i) (ho: ∀ v,G.own id=some v->Ae w' G' (.sl len cells) v): ∀ {cs:List C} {vs:List Value},Ai w G cs vs->Ai w' G' (cs.map (SW id len cells)) vs
 | [],[],_=>by simp [Ai]
 | [],_::_,h=>by simp [Ai]at h
 | _::_,[],h=>by simp [Ai]at h
 | c::cs,v::vs,h=>by simp only [Ai,map_cons]at h ⊢;exact⟨Xa hk ha ho h.1,iZ hk ha ho h.2⟩
theorem i6 {id:Ah} {len:Nat} {cells:List C} (hk:Cu G G' w w') (ha: ∀ i,pF id i=false->G'.o_ i=G.o_ i/\G'.own i=G.own i) (ho: ∀ v,G.own id=some v->Ae w' G' (.sl len cells) v) {x:V} {v:Value} (h:Ab w G x v):Ab w' G' (Pz id len cells x) v:=by
 cases x with
 | c x=>grind [Pz,Ab,Xa]
 | agg cs=>
   grind [Pz,Ab,iZ]
 | tup vs=>exact Ab.mono hk _ _ (fun i hi=>ha i (Ka hi)) (Kb h)
 | g b x=>exact Ab.mono hk _ _ (fun i hi=>ha i (Ka hi)) (Kb h)
 | undef=>exact Ab.mono hk _ _ (fun i hi=>ha i (Ka hi)) (Kb h)
theorem ck {id:Ah} {len:Nat} {cells:List C} (hk:Cu G G' w w') (ha: ∀ i,pF id i=false->G'.o_ i=G.o_ i/\G'.own i=G.own i) (ho: ∀ v,G.own id=some v->Ae w' G' (.sl len cells) v): ∀ {xs:List V} {vs:List Value},As w G xs vs->As w' G' (xs.map (Pz id len cells)) vs
 | [],vs,h=>by simpa [As] using h
 | x::xs,vs,h=>by simp only [As,map_cons]at h ⊢;obtain⟨v,r,e,h1,h2⟩:=h;exact⟨v,r,e,i6 hk ha ho h1,ck hk ha ho h2⟩
theorem Qg {id:Ah} {len:Nat} {cells:List C} (hk:Cu G G' w w') (ha: ∀ i,pF id i=false->G'.o_ i=G.o_ i/\G'.own i=G.own i) (ho: ∀ v,G.own id=some v->Ae w' G' (.sl len cells) v): ∀ {cs:List C} {b o:Nat},(∀ o,w'.cell? ⟨b,o,none⟩=w.cell? ⟨b,o,none⟩)->Al w G cs b o->Al w' G' (cs.map (SW id len cells)) b o
 | [],_,_,_,_=>by grind [Al]
 | c::cs,b,o,hc,h=>by simp only [Al,map_cons]at h ⊢;obtain⟨⟨v,h1,h2⟩,h3⟩:=h;exact⟨⟨v,by rw [hc];exact h1,Xa hk ha ho h2⟩,Qg hk ha ho hc h3⟩
theorem xK {f:C->C}: ∀ {cs:List C} {b o:Nat},(∀ k c,cs[k]? =some c-> ∃ v,w.cell? ⟨b,o+k,none⟩=some v/\Ae w G (f c) v)->Al w G (cs.map f) b o
 | [],_,_,_=>by grind [Al]
 | c::cs,b,o,h=>by simp only [Al,map_cons];refine⟨by simpa using h 0 c (by simp),xK (fun k c' hc=>?_)⟩;have:=h (k+1) c' (by simpa using hc);rw [show o+1+k=o+(k+1) by omega];exact this
theorem R.aoT (h:R F st a w G) {id:Ah} {e:Au} (hl:st.K_ id=some e) {E:TypeId} {n len:Nat} (A_:e.row=some (E,n,len)) {cells:List C} (hcs:e.cs.map Py=cells): ∃ G',R F (st.frD id len cells) a w G':=by
 subst hcs;obtain⟨hm,hid,hd,hmk,hpu,hpe,hi,_⟩:=h.aaU hl;let G':AF:=⟨fun i=>if pF id i=true then none else G.o_ i,fun i=>if pF id i=true then none else G.own i,fun b=>F.av b\/ ∃ i,(if pF id i=true then none else G.o_ i)=some b⟩;have hag: ∀ i,pF id i=false->G'.o_ i=G.o_ i/\G'.own i=G.own i:=(by grind);have t:aaf F (pF id) (fun _=>false) G G' w w:=Hv h G' rfl hag (by grind) (fun i j b hib hjb=>by
  simp only [G']at hib hjb;split at hib
  ·cases hib
  ·split at hjb
   ·cases hjb
   ·exact h.inj _ _ b hib hjb)
 have hno: ∀ cs:List C,Am cs=true->JR (fun i=>BU i cs=true) G G':=fun cs hp i hi'=>absurd (show BU i cs=true from hi') (by rw [AQ i cs hp];simp);have hnw: ∀ i b,pF id i=true->G.o_ i=some b-> ¬G'.wr b:=by
  intro i b hp hb hw;simp only [G']at hw;rcases hw with q | ⟨j,q⟩
  ·rcases h.new i b hb with q2 | q2
   ·have:=h.aaJ b q;omega
   ·exact h.aae b q2 q
  ·split at q
   ·cases q
   ·rename_i hj;exact hj (by rw [h.inj j i b q hb];exact hp)
 have axz:pF id id=true:=by simp [pF]
 have axw: ∀ k,pF id (BR k id)=true:=fun k=>by simp [pF,IZ]
 have abq: ∀ (b:Nat),G.o_ id=some b-> ∀ k c,e.cs[k]? =some c-> ∀ v,w.cell? ⟨b,k,none⟩=some v->Ae w G c v->(Py c).pure =true/\Ae w G' (Py c) v:=by
  intro b hb k c hk v hv hr;have hpc:c.pure=true:=by grind [Cn]
  by_cases hc: ∃ E n l cs,c= .isl E n l cs
  ·obtain⟨E2,n2,l2,cs2,rfl⟩:=hc;obtain⟨k1,k2,b2,v2,k3,k4,k5⟩:=h.inner hl hk;rw [hb]at k3;injection k3 with k3;subst k3;rw [hv]at k4;injection k4 with k4;subst k4;refine⟨rfl,?_⟩;simp only [Py,Ae];unfold Ba at k2;obtain⟨c1,v2,c2,c3⟩:=k2;rw [show (⟨BR k id,some (E2,n2,l2),cs2,true⟩:Au).id =BR k id from rfl,k5]at c2;injection c2 with c2;subst c2;refine⟨k1,?_⟩;rcases c3 with ⟨p,rfl,rfl,_⟩ | ⟨b',cap,cur,rfl,e2,e3,e4,e5,e6,e7⟩
   ·grind
   ·refine⟨_,cap,rfl,e4,e5,fun h0=>?_, .inr ⟨b',0,rfl,hnw _ b' (axw k) e2,h.lt _ b' e2,Al.mono t.keeps _ _ _ (hno _ k1) (fun _=>rfl) e7⟩⟩;simp_all
  ·have:Py c=c:=by cases c<;>first | rfl | grind
   rw [this];exact⟨hpc,Ae.mono t.keeps _ _ (fun i hi'=>absurd (show c.p_ i=true from hi') (by rw [Im i c hpc];simp)) hr⟩
 have ho: ∀ v,G.own id=some v->Ae w G' (.sl len (e.cs.map Py)) v:=by
  intro v hv;have hE:=h.store e hm;unfold Ba at hE;rw [A_]at hE;obtain⟨c1,v1,c2,c3⟩:=hE;rw [hid,hv]at c2;injection c2 with c2;subst c2;rcases c3 with ⟨p,rfl,rfl,c5⟩ | ⟨b,cap,cur,rfl,e2,e3,e4,e5,e6,e7⟩
  ·have:e.cs=[]:=by grind
   rw [this];simp only [Ae];grind
  ·rw [hid]at e2;obtain⟨vs,r1,r2⟩:=e7.list;have hl1:=r1.length;have hat: ∀ k c,e.cs[k]? =some c-> ∃ v,w.cell? ⟨b,k,none⟩=some v/\Ae w G c v:=by intro k c hk;obtain⟨u,hu,hr⟩:=r1.get k c hk;exact⟨u,by simpa using r2 k u hu,hr⟩
   have atw:Am (e.cs.map Py)=true:=by rw [Cn,all_eq_true];intro c hc;obtain⟨d,hd,rfl⟩:=mem_map.1 hc;obtain⟨k,hk,rfl⟩:=mem_iff_getElem.1 hd;obtain⟨u,q1,q2⟩:=hat k _ (List.getElem?_eq_getElem hk);grind
   simp only [Ae];refine⟨atw,_,cap,rfl,e4,e5,fun h0=>?_, .inr ⟨b,0,rfl,hnw id b axz e2,h.lt id b e2,xK (fun k c hk=>?_)⟩⟩
   ·simp_all
   grind
 have axU: ∀ d:Au,(d.frD id len (e.cs.map Py)).id =d.id:=fun d=>by obtain⟨i,r,cs,_ | _⟩:=d<;>rfl
 have hpn: ∀ d∈st.so,d.id ≠ id->pF id d.id=false/\(Ep d.id=true-> ∀ k,pF id (BR k d.id)=false):=by
  intro d hd' h2;refine⟨?_,fun _ k=>?_⟩
  ·unfold pF;rw [show (d.id==id)=false by simpa using h2,Bool.false_or];cases hq:DM id d.id with
   | false=>rfl
   | true=>
     have:=FD hq;rw [(h.deep d hd').1]at this;cases this
  ·unfold pF;rw [show (BR k d.id==id)=false by simpa using (CQ hmk k).symm,Bool.false_or,IZ];grind
 refine⟨G',t.rel h _ (by simp [St.frD]) (fun i=>?_) ?_ ?_ ?_ ?_ ?_⟩
 ·simp only [St.frD];rw [Gl (by simp [Pz,Bz,V.i_])];exact i6 t.keeps hag ho (h.w_ i)
 ·exact ck t.keeps hag ho h.I_
 ·intro x hx;simp only [St.frD,mem_map,mem_filter,bne_iff_ne]at hx;obtain⟨d,⟨hd',Tg⟩,rfl⟩:=hx;have hE:=h.store d hd';have hgd:=hag d.id (hpn d hd' Tg).1;have hpd:=h.y_ d hd';obtain⟨i,r,ds,pu⟩:=d;cases pu with
  | true=>exact CF t.keeps (hno _ (hpd rfl)) hgd (fun _ _=>rfl) hE
  | false=>
    unfold Ba at hE ⊢;cases r with
    | none=>
      obtain⟨b,h1,h2⟩:=hE;refine⟨b,by grind,?_⟩;rcases h2 with ⟨kv,es,h2,h3⟩ | ⟨T,cur,h2,h3,h4⟩
      ·dsimp only [Au.frD]at h2 ⊢;rw [h2];exact .inl ⟨kv,es,by simp [SW,Cy,C.i_],h3⟩
      ·exact .inr ⟨T,cur,h2,by simpa [Au.frD] using h3,Qg t.keeps hag ho (fun _=>rfl) h4⟩
    | some q=>
      obtain⟨E',n',abV⟩:=q;obtain⟨hl',v,h1,h2⟩:=hE;refine⟨by grind [Au.frD],v,by grind,?_⟩;rcases h2 with ⟨p,e1,e2,e3⟩ | ⟨b,cap,cur,e1,e2,e3,e4,e5,e6,e7⟩
      ·grind
      ·exact .inr ⟨b,cap,cur,e1,by grind,e3,e4,e5,e6,Qg t.keeps hag ho (fun _=>rfl) e7⟩
 ·intro x hx;simp only [St.frD,mem_map,mem_filter,bne_iff_ne]at hx;obtain⟨d,⟨hd',Tg⟩,rfl⟩:=hx;have hD:=h.deep d hd';have hD2:By w G (d.frD id len (e.cs.map Py)):=by
   obtain⟨i,r,cs,pu⟩:=d;cases pu with
   | true=>exact hD
   | false=>exact⟨hD.1,fun hq=>absurd (hD.2 hq).1 (by simp)⟩
  refine By.mono t.keeps (by grind) (fun hq k=>?_) (fun _ _=>rfl) (fun _ _ _ _=>rfl) hD2;grind
 ·intro x hx;simp only [St.frD,mem_map,mem_filter]at hx;obtain⟨d,⟨hd',_⟩,rfl⟩:=hx;have:=h.y_ d hd';obtain⟨i,r,cs,pu⟩:=d;cases pu with
  | true=>exact this
  | false=>intro hq;cases hq
 ·simp only [St.frD,map_map,Function.comp_def,axU];exact List.Sublist.nodup (by grind [filter_sublist]) h.nodup
end
end Go.PL
namespace Go.PL
open Go Go.RowKit
inductive DS where
 | ld (E:TypeId) (n len:Nat) (cs:List C)
 | ix (E:TypeId) (n len:Nat) (cs:List C)
 | rd (E:TypeId) (n len:Nat) (cs:List C) (u:V)
 | ln (E:TypeId) (n len:Nat) (cs:List C)
 | st (E:TypeId) (n len ln:Nat) (cs cells:List C)
 | ps (cells:List C)
 | ab (cells:List C)
 | lx (E:TypeId) (n len:Nat) (cs:List C)
 | nw (t:Option (Nat×List C))
 | bs
 | aa (len:Nat) (cells:List C)
section
variable {F:Fr} {st:St} {a:Act} {w:World} {G:AF}
theorem R.M_ (h:R F st a w G) {e:Au} {id:Ah} (he:e∈st.so) (hid:e.id=id) (hd:Ep id=true):st.K_ id=some e:=by
 unfold St.K_;cases hf:st.so.find? (fun e=>e.id==id&&Ep e.id)with
 | none=>
   grind
 | some x=>
   have h1:=List.mem_of_find?_eq_some hf;have h2:=find?_some hf;simp only [and_eq_true,beq_iff_eq]at h2;rw [h.uniq h1 he (h2.1.trans hid.symm)]
theorem R.ads (h:R F st a w G) {e:Au} {id:Ah} (he:e∈st.so) (hid:e.id=id) (hd:Ep id=false) (hr:e.row.isSome=true):st.look id=some e:=by
 have hM:e.isM=false:=by grind [Au.isM]
 unfold St.look;cases hf:st.so.find? (fun e=>e.id==id&& !(e.isM||Ep e.id))with
 | none=>
   grind
 | some x=>
   have h1:=List.mem_of_find?_eq_some hf;have h2:=find?_some hf;simp only [and_eq_true,beq_iff_eq]at h2;rw [h.uniq h1 he (h2.1.trans hid.symm)]
theorem R.aeS (h:R F st a w G) {d:Nat} {x:V} (hx:Ab w G x (a.tmps.getD d Go.undef)):R F (st.put (some d) x) a w G:={
 dfr:=h.dfr
 size:=by simp [St.put,h.size]
 w_:=fun i=>by
  simp only [St.put,List.getD_eq_getElem?_getD,getElem?_set];by_cases hi:d=i
  ·subst hi;by_cases hl:d<st.tm.length
   ·grind
   ·rw [if_pos rfl,if_neg hl,Option.getD_none];simp only [Ab]
  ·rw [if_neg hi];have:=h.w_ i;grind
 I_:=h.I_,store:=h.store,deep:=h.deep,y_:=h.y_,nodup:=h.nodup
 inj:=h.inj,lt:=h.lt,new:=h.new,wr:=h.wr,aaJ:=h.aaJ,inv:=h.inv,aae:=h.aae,os:=h.os,tape:=h.tape,output:=h.output,v_:=h.v_,ext:=h.ext}
end
section
variable {P:Program} {I:World->Prop} {o:Oper} {st a_:St} {K:St->Prop} {F:Fr} {a:Act} {w:World} {G:AF}
theorem Rm (h:R F st a w G) {x:Operand} (hl:AX (AW st true x).1):Ab w G (AW st true x).2 (a.eval x):=by obtain⟨h1,h2⟩:=O6 hl;rw [<-h2];exact h.arg rfl h1
def dLd (P:Program) (st:St) (o:Oper) (E n len:Nat) (cs:List C):Option (List Prop×St):=match o.op with
 | .load T x=>match (AW st true x).2,KS P T with
   | .c (.ptr id k),some (ag,n')=>match !ag&&Nat.beq n' 1,st.K_ id with
     | true,some e=>some ((AW st true x).1++[e.cs[k]? =some (.isl E n len cs)],st.put o.dst (.c (.j_ (1000007::k::id))))
     | _,_=>none
   | _,_=>none
 | _=>none
theorem xL {E n len:Nat} {cs:List C} {l:List Prop} (h:dLd P st o E n len cs=some (l,a_)) (hl:AX l) (hK:K a_):DL P I o st K:=by
 unfold dLd at h;split at h
 ·rename_i T x ho;split at h
  ·rename_i id k ag n' hx ht;split at h
   ·rename_i e hb he;simp only [Option.some.injEq,injEq]at h;obtain⟨rfl,rfl⟩:=h;obtain⟨q1,q2,_⟩:=Ak.1 hl;intro F a w G Q hI hR;have U_:=Rm hR q1;rw [hx]at U_;simp only [Ab,Ae]at U_;obtain⟨b,hb1,hv⟩:=U_;obtain⟨_,hE,b2,v,k3,k4,k5⟩:=hR.inner he q2;rw [hb1]at k3;injection k3 with k3;subst k3;simp only [and_eq_true,not_eq_true']at hb;obtain⟨d,i,hu,hd,_⟩:=Dc ht;have acy:v.oneCell'=true:=by unfold Ba at hE;obtain⟨_,v2,c2,c3⟩:=hE;rw [show (⟨BR k id,some (E,n,len),cs,true⟩:Au).id =BR k id from rfl,k5]at c2;injection c2 with c2;subst c2;rcases c3 with ⟨p,rfl,_⟩ | ⟨b',cap,cur,rfl,_⟩<;>rfl
    have s_:(execOp a.eval o).run P w= .ok (.value v) w:=by simp_all [execOp,D6]
    exact AK s_ ⟨_,G,hK,hR.put (by simp only [Ab,Ae];exact⟨k5,acy⟩)⟩
   ·cases h
  ·cases h
 ·cases h
def dIx (P:Program) (st:St) (o:Oper) (E n len:Nat) (cs:List C):Option (List Prop×St):=match o.op with
 | .indexAddr t x y=>match (AW st true x).2,(AW st true y).2,Dt P t with
   | .c (.j_ (m::k::id)), .c (.int _ i),some (_,n')=>match Nat.beq m 1000007&&Nat.beq n' n,st.K_ id with
     | true,some e=>some (((AW st true x).1++(AW st true y).1)++[e.cs[k]? =some (.isl E n len cs),0<=i/\i<(len:Int)],st.put o.dst (.c (.ptr (m::k::id) (i.toNat*n'))))
     | _,_=>none
   | _,_,_=>none
 | _=>none
theorem xM {E n len:Nat} {cs:List C} {l:List Prop} (h:dIx P st o E n len cs=some (l,a_)) (hl:AX l) (hK:K a_):DL P I o st K:=by
 unfold dIx at h;split at h
 ·rename_i t x y ho;split at h
  ·rename_i m k id ki i E' n' hx hy ht;split at h
   ·rename_i e hb he;simp only [Option.some.injEq,injEq]at h;obtain⟨rfl,rfl⟩:=h;obtain⟨q1,q2,q3,_⟩:=Ak.1 hl;obtain⟨q1,q1'⟩:=Ak.1 q1;intro F a w G Q hI hR;have U_:=Rm hR q1;have hyv:=Rm hR q1';rw [hx]at U_;rw [hy]at hyv;simp only [Ab,Ae]at U_ hyv;simp only [and_eq_true]at hb;have hm:=eq_of_beq_eq_true hb.1;subst hm;obtain⟨_,hE,_⟩:=hR.inner he q2;unfold Ba at hE;obtain⟨_,v2,c2,c3⟩:=hE;rw [show (⟨BR k id,some (E,n,len),cs,true⟩:Au).id =BR k id from rfl,show BR k id=1000007::k::id from rfl,U_.1]at c2;injection c2 with c2;rcases c3 with ⟨p,_,c4,_⟩ | ⟨b',cap,cur,c3,e2,_⟩
    ·omega
    ·have s_:(execOp a.eval o).run P w= .ok (.value (.pointer (some ⟨b',0+i.toNat*n',none⟩))) w:=by simp [execOp,ho,hyv,c2,c3,Er ht b' 0 len cap ki i q3.1 q3.2 w]
     exact AK s_ ⟨_,G,hK,hR.put (by simp only [Ab,Ae];exact⟨b',e2,by grind⟩)⟩
   ·cases h
  ·cases h
 ·cases h
def dRd (P:Program) (st:St) (o:Oper) (E n len:Nat) (cs:List C) (u:V):Option (List Prop×St):=match o.op with
 | .load T x=>match (AW st true x).2,KS P T with
   | .c (.ptr (m::k::id) off),some (ag,n')=>match Nat.beq m 1000007&&(ag||Nat.blt 0 n'),st.K_ id with
     | true,some e=>some ((AW st true x).1++[e.cs[k]? =some (.isl E n len cs),off+n'<=cs.length/\toV ag off n' cs=u],st.put o.dst u)
     | _,_=>none
   | _,_=>none
 | _=>none
theorem xN {E n len:Nat} {cs:List C} {u:V} {l:List Prop} (h:dRd P st o E n len cs u=some (l,a_)) (hl:AX l) (hK:K a_):DL P I o st K:=by
 unfold dRd at h;split at h
 ·rename_i T x ho;split at h
  ·rename_i m k id off ag n' hx ht;split at h
   ·rename_i e hb he;simp only [Option.some.injEq,injEq]at h;obtain⟨rfl,rfl⟩:=h;obtain⟨q1,q2,q3,_⟩:=Ak.1 hl;intro F a w G Q hI hR;have U_:=Rm hR q1;rw [hx]at U_;simp only [Ab,Ae]at U_;obtain⟨b,hb1,hv⟩:=U_;simp only [and_eq_true,or_eq_true,Nat.blt_eq]at hb;have hm:=eq_of_beq_eq_true hb.1;subst hm;obtain⟨_,hE,_⟩:=hR.inner he q2;obtain⟨cur,T',_,_,A_⟩:=hE.row (fun q=>by cases q) hb1;obtain⟨v,r1,r2⟩:=WF (P:=P) A_ ht q3.1 hb.2;have s_:(execOp a.eval o).run P w= .ok (.value v) w:=by simp_all [C6.refl,execOp]
    exact AK s_ ⟨_,G,hK,hR.put (by grind)⟩
   ·cases h
  ·cases h
 ·cases h
def dLn (P:Program) (st:St) (o:Oper) (E n len:Nat) (cs:List C):Option (List Prop×St):=match o.op with
 | .call c=>match c.callee,c.args.toList,c.argTypes.toList with
   | .builtin .len,[x],[t]=>match (AW st true x).2 with
     | .c (.j_ (m::k::id))=>match Nat.beq m 1000007&&Fa P t,st.K_ id with
       | true,some e=>some ((AW st true x).1++[e.cs[k]? =some (.isl E n len cs)],st.put o.dst (.c (.int .i64 len)))
       | _,_=>none
     | _=>none
   | _,_,_=>none
 | _=>none
theorem xO {E n len:Nat} {cs:List C} {l:List Prop} (h:dLn P st o E n len cs=some (l,a_)) (hl:AX l) (hK:K a_):DL P I o st K:=by
 unfold dLn at h;split at h
 ·rename_i c ho;split at h
  ·rename_i x t h1 h2 h3;split at h
   ·rename_i m k id hx;split at h
    ·rename_i e hb he;simp only [Option.some.injEq,injEq]at h;obtain⟨rfl,rfl⟩:=h;obtain⟨q1,q2,_⟩:=Ak.1 hl;intro F a w G Q hI hR;have U_:=Rm hR q1;rw [hx]at U_;simp only [Ab,Ae]at U_;simp only [and_eq_true]at hb;have hm:=eq_of_beq_eq_true hb.1;subst hm;obtain⟨el,hel⟩:=Fb hb.2;obtain⟨_,hE,_⟩:=hR.inner he q2;unfold Ba at hE;obtain⟨_,v2,c2,c3⟩:=hE;rw [show (⟨BR k id,some (E,n,len),cs,true⟩:Au).id =BR k id from rfl,show BR k id=1000007::k::id from rfl,U_.1]at c2;injection c2 with c2;have hsl: ∃ p cap,a.eval x= .slice p len cap:=by grind
     obtain⟨p,cap,hsl⟩:=hsl;have ea:c.args= #[x]:=by grind
     have et:c.argTypes= #[t]:=by grind
     have s_:(execOp a.eval o).run P w= .ok (.value (.int .i64 len)) w:=by simp [execOp,ho,resolve,h1,ea,et,invoke,builtin,Builtin.len_,Sem.run_bind,run_underlying hel,goInt,hsl]
     exact AK s_ ⟨_,G,hK,hR.put (by simp only [Ab,Ae])⟩
    ·cases h
   ·cases h
  ·cases h
 ·cases h
theorem Ev {T:TypeId} {ag:Bool} {n b off:Nat} {T':TypeId} {cur:Array Value} {v:Value} (ht:KS P T=some (ag,n)) (hh:w.heap[b]? =some (.cells cur T' (0,0))) (hl:v.cells.toList.length=n) (al0:off+v.cells.toList.length<=cur.size) (acy: ∀ u∈v.cells.toList,u.oneCell'=true):
 (Instr.storeAt T (.pointer (some ⟨b,off,none⟩)) v).run P w= .ok () (w.setRow b (cur.toList.take off++v.cells.toList++cur.toList.drop (off+v.cells.toList.length)).toArray):=by
 obtain⟨d,i,hu,hd,hi,hsz⟩:=Dc ht;have hst:=run_storeCells_at P b off T' v.cells.toList 0 cur w hh (by simpa using al0) acy;simp only [add_zero]at hst;simp_all [Instr.storeAt,Instr.sureAddr,storeVar,sizeOf,typeInfo]
theorem FZ {w':World} {K:Act->World->Prop} {Q:Exit->Act->World->Prop} (hr:(execOp a.eval o).run P w= .ok .skip w') (h:K (a.put o.dst Go.undef) w'):o.wp P a w K Q:=by grind [Oper.wp,Oper.upon]
def i7 (len:Nat):Option (TypeId×Nat×Nat)->Option (TypeId×Nat×Nat)
 | some (E,n,_)=>some (E,n,len)
 | none=>none
def dSt (P:Program) (st:St) (o:Oper) (E n len ln:Nat) (cs cells:List C):Option (List Prop×St):=match o.op with
 | .store T x y=>match o.dst,(AW st true x).2,(AW st true y).2.cells,KS P T with
   | none, .c (.ptr (m::k::id) off),some xs,some (_,n')=>match Nat.beq m 1000007&&(Nat.beq xs.length n'&&Am xs),st.K_ id with
     | true,some e=>some (((AW st true x).1++(AW st true y).1)++[e.cs[k]? =some (.isl E n len cs),off+n'<=cs.length/\e.cs.set k (.isl E n len (cs.take off++xs++cs.drop (off+xs.length)))=cells,i7 ln e.row=e.row],st.aeu id (i7 ln e.row) cells)
     | _,_=>none
   | _,_,_,_=>none
 | _=>none
theorem xP {E n len ln:Nat} {cs cells:List C} {l:List Prop} (h:dSt P st o E n len ln cs cells=some (l,a_)) (hl:AX l) (hK:K a_):DL P I o st K:=by
 unfold dSt at h;split at h
 ·rename_i T x y ho;split at h
  ·rename_i m k id off xs ag n' af1 hx hy ht;split at h
   ·rename_i e hb he;simp only [Option.some.injEq,injEq]at h;obtain⟨rfl,rfl⟩:=h;obtain⟨q1,q2,q3,q4,_⟩:=Ak.1 hl;rw [q4]at hK;obtain⟨q1,q1'⟩:=Ak.1 q1;intro F a w G Q hI hR;have U_:=Rm hR q1;have hyv:=Rm hR q1';rw [hx]at U_;simp only [Ab,Ae]at U_;obtain⟨b,hb1,hv⟩:=U_;simp only [and_eq_true]at hb;have hm:=eq_of_beq_eq_true hb.1;have hn:=eq_of_beq_eq_true hb.2.1;subst hm;have hc:=J0 hyv hy;have hlc:=hc.length;obtain⟨cur,T',r1,r2,r3⟩:=hR.agd he q2 (show G.o_ (BR k id)=some b from hb1) (off:=off) hc (by omega) hb.2.2;rw [q3.2]at r3;have hs:=Ev (P:=P) ht r1 (by omega) r2 (Ai.one hc);generalize w.setRow b _=w1 at hs r3;have s_:(execOp a.eval o).run P w= .ok .skip w1:=by simp_all [execOp]
    exact FZ s_ (by rw [af1];exact⟨_,G,hK,r3⟩)
   ·cases h
  ·cases h
 ·cases h
theorem mO {x:V} {v:Value} (h:Ab w G x v):Ab w G x.ae6 v:=by cases x<;>grind [V.ae6,Ab,JC,SR]
def dPs (P:Program) (st:St) (o:Oper) (cells:List C):Option (List Prop×St):=match o.op with
 | .store T x y=>match o.dst,(AW st true x).2,(AW st true y).2.ae6.cells,KS P T with
   | none, .c (.ptr id off),some xs,some (_,n')=>match (Nat.beq xs.length n'&&Am xs)&&xs.all lZ,st.K_ id with
     | true,some e=>some (((AW st true x).1++(AW st true y).1)++[off+n'<=e.cs.length/\e.cs.take off++xs++e.cs.drop (off+xs.length)=cells],st.aeu id e.row cells)
     | _,_=>none
   | _,_,_,_=>none
 | _=>none
theorem xQ {cells:List C} {l:List Prop} (h:dPs P st o cells=some (l,a_)) (hl:AX l) (hK:K a_):DL P I o st K:=by
 unfold dPs at h;split at h
 ·rename_i T x y ho;split at h
  ·rename_i id off xs ag n' af1 hx hy ht;split at h
   ·rename_i e hb he;simp only [Option.some.injEq,injEq]at h;obtain⟨rfl,rfl⟩:=h;obtain⟨q1,q2,_⟩:=Ak.1 hl;obtain⟨q1,q1'⟩:=Ak.1 q1;intro F a w G Q hI hR;have U_:=Rm hR q1;have hyv:=mO (Rm hR q1');rw [hx]at U_;simp only [Ab,Ae]at U_;obtain⟨b,hb1,hv⟩:=U_;simp only [and_eq_true]at hb;have hn:=eq_of_beq_eq_true hb.1.1;have hc:=J0 hyv hy;have hlc:=hc.length;obtain⟨cur,T',r1,r2,r3⟩:=hR.acP he hb1 (off:=off) hc (by omega) hb.1.2 hb.2;rw [q2.2]at r3;have hs:=Ev (P:=P) ht r1 (by omega) r2 (Ai.one hc);generalize w.setRow b _=w1 at hs r3;have s_:(execOp a.eval o).run P w= .ok .skip w1:=by simp_all [execOp]
    exact FZ s_ (by rw [af1];exact⟨_,G,hK,r3⟩)
   ·cases h
  ·cases h
 ·cases h
theorem ro {id:Ah} {row:Option (TypeId×Nat×Nat)} {c1 c2:List C} {p:Ah->Bool} (x:Au):Tp id row c2 ((Tp id row c1 x).e_ p)=Tp id row c2 (x.e_ p):=by
 by_cases h:x.id=id
 all_goals grind [Em,Au.u_,Au.afs,El]
def dAb (P:Program) (st:St) (o:Oper) (cells:List C):Option (List Prop×St):=match o.op with
 | .store T x y=>match o.dst,(AW st true x).2,(AW st true y).2,KS P T with
   | none, .c (.ptr id k), .c (.j_ r),some (ag,n')=>match !ag&&Nat.beq n' 1,st.K_ id,st.look r with
     | true,some e,some er=>match er.row,er.pu with
       | some (E,n,len),true=>some (((AW st true x).1++(AW st true y).1)++[k<e.cs.length/\e.cs.set k (.isl E n len er.cs)=cells],st.e_ (pD r id) (((st.so.filter (fun d=>d.id != r)).map (Au.e_ (pD r id))).map (Tp id e.row cells)))
       | _,_=>none
     | _,_,_=>none
   | _,_,_,_=>none
 | _=>none
theorem xR {cells:List C} {l:List Prop} (h:dAb P st o cells=some (l,a_)) (hl:AX l) (hK:K a_):DL P I o st K:=by
 unfold dAb at h;split at h
 ·rename_i T x y ho;split at h
  ·rename_i id k r ag n' af1 hx hy ht;split at h
   ·rename_i e er hb he her;split at h
    ·rename_i E n len A_ hpu;simp only [Option.some.injEq,injEq]at h;obtain⟨rfl,rfl⟩:=h;obtain⟨q1,q2,_⟩:=Ak.1 hl;obtain⟨q1,q1'⟩:=Ak.1 q1;intro F a w G Q hI hR;have U_:=Rm hR q1;have hyv:=Rm hR q1';rw [hx]at U_;rw [hy]at hyv;simp only [Ab,Ae]at U_ hyv;obtain⟨b,hb1,hv⟩:=U_;simp only [and_eq_true,not_eq_true']at hb;have hn:=eq_of_beq_eq_true hb.2;have hcl:(a.eval y).cells.toList =[a.eval y]:=by have:=hyv.2;cases hq:a.eval y<;>rw [hq]at this<;>first | rfl | cases this
     have hc:Ai w G [C.any] (a.eval y).cells.toList :=by simp_all [Ai,Ae]
     obtain⟨cur,T',r1,r2,r3⟩:=hR.acP he hb1 (off:=k) hc (by simp;omega) rfl rfl;have hs:=Ev (P:=P) ht r1 (by rw [hcl];simp;omega) r2 (Ai.one hc);have abq:(w.setRow b (cur.toList.take k++(a.eval y).cells.toList ++cur.toList.drop (k+(a.eval y).cells.toList.length)).toArray).cell? ⟨b,k,none⟩=some (a.eval y):=by have:=setRow_heap w b cur (cur.toList.take k++(a.eval y).cells.toList ++cur.toList.drop (k+(a.eval y).cells.toList.length)).toArray T' (0,0) r1;grind [World.cell?,List.length_take]
     generalize w.setRow b _=w1 at hs r3 abq;have s_:(execOp a.eval o).run P w= .ok .skip w1:=by simp_all [execOp]
     obtain⟨hm,hid,hd⟩:=O8 he;obtain⟨hmr,af0⟩:=Bi her;have akG:=FP her;have ajt:r ≠ id:=(by grind);have hD:(st.aeu id e.row (e.cs.take k++[C.any]++e.cs.drop (k+[C.any].length))).K_ id=some ⟨id,e.row,e.cs.take k++[C.any]++e.cs.drop (k+[C.any].length),e.pu⟩:=by refine r3.M_ ?_ rfl hd;grind [St.aeu,Em]
     have hL:(st.aeu id e.row (e.cs.take k++[C.any]++e.cs.drop (k+[C.any].length))).look r=some er:=by refine r3.ads ?_ af0 akG (by grind);grind [St.aeu,El]
     have hk':k<(⟨id,e.row,e.cs.take k++[C.any]++e.cs.drop (k+[C.any].length),e.pu⟩:Au).cs.length :=by simp;omega
     obtain⟨G',g1,_⟩:=r3.anz hD hL A_ hpu hb1 abq hyv.1 hk'
     suffices am9:R F (st.e_ (pD r id) (((st.so.filter (fun d=>d.id != r)).map (Au.e_ (pD r id))).map (Tp id e.row cells))) a w1 G' from FZ s_ (by rw [af1];exact⟨_,G',hK,am9⟩)
     have e1:(e.cs.take k++[C.any]++e.cs.drop (k+[C.any].length)).set k (.isl E n len er.cs)=cells:=by
      rw [<-q2.2];apply List.ext_getElem?;intro j;simp only [getElem?_set];by_cases hj:k=j
      ·grind
      ·rw [if_neg hj,if_neg hj,append_assoc];have htl:(e.cs.take k).length =k:=by grind
       by_cases hjk:j<k
       ·grind
       ·rw [getElem?_append_right (by omega),htl,getElem?_append_right (by simp;omega),List.getElem?_drop];grind
     have e2:(((st.aeu id e.row (e.cs.take k++[C.any]++e.cs.drop (k+[C.any].length))).so.filter (fun d=>d.id != r)).map (Au.e_ (pD r id))).map (Tp id e.row cells)=((st.so.filter (fun d=>d.id != r)).map (Au.e_ (pD r id))).map (Tp id e.row cells):=by
      simp only [St.aeu];rw [List.filter_map];simp only [map_map];have:(fun d:Au=>d.id != r) ∘ Tp id e.row (e.cs.take k++[C.any]++e.cs.drop (k+[C.any].length))=fun d=>d.id != r:=by funext d;simp [eN]
      grind [List.map_congr_left,ro]
     rw [e1]at g1;have e3: ∀ so,(st.aeu id e.row (e.cs.take k++[C.any]++e.cs.drop (k+[C.any].length))).e_ (pD r id) so=st.e_ (pD r id) so:=fun so=>rfl;grind
    ·cases h
   ·cases h
  ·cases h
 ·cases h
def dLx (P:Program) (st:St) (o:Oper) (E n len:Nat) (cs:List C):Option (List Prop×St):=match o.op with
 | .load T x=>match o.dst,(AW st true x).2,KS P T with
   | some d, .c (.ptr id k),some (ag,n')=>match (!ag&&Nat.beq n' 1)&&(!CM (d::st.pre)&& !Ep (d::st.pre)),st.K_ id with
     | true,some e=>some ((AW st true x).1++[e.cs[k]? =some (.isl E n len cs)],
      (st.e_ (pD (d::st.pre) id) (⟨d::st.pre,some (E,n,len),cs,true⟩::((st.so.filter (fun x=>x.id != d::st.pre)).map (Au.e_ (pD (d::st.pre) id))).map (Tp id e.row (e.cs.set k .any)))).put (some d) (.c (.j_ (d::st.pre))))
     | _,_=>none
   | _,_,_=>none
 | _=>none
theorem xS {E n len:Nat} {cs:List C} {l:List Prop} (h:dLx P st o E n len cs=some (l,a_)) (hl:AX l) (hK:K a_):DL P I o st K:=by
 unfold dLx at h;split at h
 ·rename_i T x ho;split at h
  ·rename_i d id k ag n' af1 hx ht;split at h
   ·rename_i e hb he;simp only [Option.some.injEq,injEq]at h;obtain⟨rfl,rfl⟩:=h;obtain⟨q1,q2,_⟩:=Ak.1 hl;intro F a w G Q hI hR;have U_:=Rm hR q1;rw [hx]at U_;simp only [Ab,Ae]at U_;obtain⟨b,hb1,hv⟩:=U_;simp only [and_eq_true,not_eq_true']at hb;obtain⟨G',g1,b2,v,g2,g3,g4,g5⟩:=hR.extract he q2 (r:=d::st.pre) hb.2.1 hb.2.2;rw [hb1]at g2;injection g2 with g2;subst g2;obtain⟨dd,i,hu,hd,_⟩:=Dc ht;have s_:(execOp a.eval o).run P w= .ok (.value v) w:=by simp_all [execOp,D6]
    refine AK s_ ⟨_,G',hK,?_⟩;grind [R.put,Ab,Ae]
   ·cases h
  ·cases h
 ·cases h
def dAa (P:Program) (st:St) (o:Oper) (ln:Nat) (cells:List C):Option (List Prop×St):=match o.op with
 | .call c=>match o.dst,c.callee,c.args.toList,c.argTypes.toList with
   | some d, .builtin .append,[u,x],[t,t']=>match (AW st true u).2,(AW st true x).2,DR P t with
     | .c (.j_ id), .c (.j_ q),some (E,n,by')=>match st.K_ id,st.look q with
       | some e,some eq=>match e.row,eq.row,eq.cs with
         | some (E0,n0,len),some (E1,n1,ajj),[.j_ r]=>match (t==t'&&(E0==E&&n0==n))&&(Nat.beq n 1&&(Nat.beq n1 1&&Nat.beq ajj 1)),st.look r with
           | true,some er=>match er.row,er.pu with
             | some (E2,n2,abf),true=>some (((AW st true u).1++(AW st true x).1)++[e.cs++[.isl E2 n2 abf er.cs]=cells,(len+1)*by'<=140737488355328/\len+1<=maxLen,len+1=ln],
              ((st.e_ (· ==id) []).e_ (pD r id) (((((st.so.map (Au.e_ (· ==id))).map (Tp id (some (E,n,ln)) (e.cs++[.any]))).filter (fun d=>d.id != r)).map (Au.e_ (pD r id))).map (Tp id (some (E,n,ln)) cells))).put (some d) (.c (.j_ id)))
             | _,_=>none
           | _,_=>none
         | _,_,_=>none
       | _,_=>none
     | _,_,_=>none
   | _,_,_,_=>none
 | _=>none
theorem xT {ln:Nat} {cells:List C} {l:List Prop} (h:dAa P st o ln cells=some (l,a_)) (hl:AX l) (hK:K a_):DL P I o st K:=by
 unfold dAa at h;split at h
 case h_2=>cases h
 rename_i c ho;split at h
 case h_2=>cases h
 rename_i d u x t t' af1 adK abQ akD;split at h
 case h_2=>cases h
 rename_i id q E n by' hu hx abg;split at h
 case h_2=>cases h
 rename_i e eq he heq;split at h
 case h_2=>cases h
 rename_i E0 n0 len E1 n1 ajj r apw ato ayc;split at h
 case h_2=>cases h
 rename_i er hb her;split at h
 case h_2=>cases h
 rename_i E2 n2 abf A_ hpu;simp only [Option.some.injEq,injEq]at h;obtain⟨rfl,rfl⟩:=h;obtain⟨q1,q2,q3,q4,_⟩:=Ak.1 hl;subst q4;obtain⟨q1,q1'⟩:=Ak.1 q1;simp only [and_eq_true,beq_iff_eq]at hb;obtain⟨⟨rfl,rfl,rfl⟩,hb1,hb2,hb3⟩:=hb;have hn:=eq_of_beq_eq_true hb1;have hn1:=eq_of_beq_eq_true hb2;have hl1:=eq_of_beq_eq_true hb3;subst hn hn1 hl1;intro F a w G Q hI hR;have huv:=Rm hR q1;have U_:=Rm hR q1';rw [hu]at huv;rw [hx]at U_;simp only [Ab,Ae]at huv U_;obtain⟨hm,hid,hd⟩:=O8 he;obtain⟨hmq,atK⟩:=Bi heq;obtain⟨hmr,af0⟩:=Bi her;have akG:=FP her;have ajt:r ≠ id:=(by grind);obtain⟨i,z,hty,hi,hz,hsz,hby,hzs⟩:=DJ abg;have hEq:=hR.store eq hmq;unfold Ba at hEq;rw [ato,ayc]at hEq;obtain⟨_,vq,c2,c3⟩:=hEq;rw [atK,U_.1]at c2;injection c2 with c2;rcases c3 with ⟨p,_,c4,_⟩ | ⟨bq,ann,azc,c3,_,_,aBi,_,_,c7⟩
 ·cases c4
 simp only [Al]at c7;obtain⟨⟨vr,hcr,hvr⟩,_⟩:=c7;simp only [Ae]at hvr;obtain⟨v,xs,k1,k2,k3,k4⟩:=DI apw (hR.store e hm);rw [hid,huv.1]at k1;injection k1 with k1;have hus:Ai w G [C.any] [vr]:=by simp_all [Ai,Ae]
 have adG: ∀ j u',[vr][j]? =some u'->w.cell? ((⟨bq,0,none⟩:Addr).add j)=some u':=by intro j u' hj;cases j<;>grind [Addr.add_mid]
 have main: ∀ v0 v' w',(Builtin.append_ #[t,t] o.type #[a.eval u,a.eval x]).run P w= .ok v' w'->v0.ownBlock=G.o_ id->(∀ b j u',G.o_ id=some b->xs[j]? =some u'->w.cell? ⟨b,j,none⟩=some u')->w.ownsRow 0 E0 1 v0 len xs->w'.ownsRow 0 E0 1 v' (len+1) (xs++[vr])->w.grownBy w' v0.ownBlock->(v'.ownBlock=v0.ownBlock\/ ∀ b,v'.ownBlock=some b->w.heap.size<=b)->o.wp P a w (ir F K) Q:=by
  intro v0 v' w' s_ hob hxc hold aam hg hfr;obtain⟨g1,g2⟩:=hR.afC he apw hob k3 hus hxc hold aam hg hfr rfl rfl;have hD:=g1.M_ (e:=⟨id,some (E0,1,len+1),e.cs++[C.any],e.pu⟩) (id:=id) (by
   simp only [St.e_,map_map,mem_map,Function.comp];grind [Em,Au.u_,Au.afs]) rfl hd
  have aFh:er.e_ (· ==id)=er:=by obtain⟨i1,r1,cs1,pu1⟩:=er;simp only at hpu;subst hpu;rfl
  have hL:=g1.ads (e:=er) (id:=r) (by
   simp only [St.e_,map_map,mem_map,Function.comp];grind [El]) af0 akG (by grind)
  have hlx:=k3.length;obtain⟨g,cap,cur,n1,_,n2',n3,n4,n5,n6⟩: ∃ g cap cur,v'= .slice (some ⟨g,0,none⟩) (len+1) cap/\0<=g/\w'.heap[g]? =some (.cells cur E0 (0,0))/\len+1<=cap/\cap<=maxLen/\cur.size=cap*1/\cur.toList.take ((len+1)*1)=xs++[vr]:=by
   rcases aam.2 with ⟨_,h0⟩ | h1
   all_goals grind
  have abq:w'.cell? ⟨g,e.cs.length,none⟩=some vr:=by have hrg:=BE n2' (us:=xs++[vr]) (rest:=cur.toList.drop ((len+1)*1)) (by rw [<-n6,take_append_drop]);have:=hrg e.cs.length vr (by grind);grind
  have abm:(Ci F G id v'.ownBlock (some v')).o_ id=some g:=by simp [Ci,n1,Value.ownBlock]
  have axB:(Ci F G id v'.ownBlock (some v')).own r=some vr:=by grind [Ci]
  have hk':e.cs.length<(⟨id,some (E0,1,len+1),e.cs++[C.any],e.pu⟩:Au).cs.length :=by simp
  obtain⟨G',g3,g4⟩:=g1.anz hD hL A_ hpu abm abq axB hk';have e1:(e.cs++[C.any]).set e.cs.length (.isl E2 n2 abf er.cs)=cells:=by grind
  rw [show (⟨id,some (E0,1,len+1),e.cs++[C.any],e.pu⟩:Au).row =some (E0,1,len+1)from rfl,show (⟨id,some (E0,1,len+1),e.cs++[C.any],e.pu⟩:Au).cs =e.cs++[C.any]from rfl,e1]at g3;have ea:c.args= #[u,x]:=by grind
  have et:c.argTypes= #[t,t]:=by grind
  have ajs:(execOp a.eval o).run P w= .ok (.value v') w':=by simp_all [execOp,resolve,invoke,builtin]
  refine AK ajs ⟨_,G',hK,?_⟩;rw [af1];exact R.put (d:=some d) g3 (show Ab w' G' (V.c (C.j_ id)) v' by simp only [Ab,Ae];exact⟨by rw [g4];simp [Ci],g2⟩)
 have hbb:(len+1)*by'<=140737488355328:=q3.1;rcases k4 with ⟨k4,k5⟩ | ⟨p,hvp,h0,hxs,k5⟩
 ·rw [hid]at k5;have hxc: ∀ b j u',G.o_ id=some b->xs[j]? =some u'->w.cell? ⟨b,j,none⟩=some u':=by intro b j u' hb' hj;have:=k4.cells (g:=b) (by grind) j u' hj;grind [Addr.add_mid]
  obtain⟨v',w',s_,aah,hg,hfr⟩:=IX (P:=P) (w:=w) t o.type E0 i z 1 by' hty hi hz hsz hby hzs (by omega) v len xs k4 ⟨bq,0,none⟩ 1 ann [vr] (by simp) adG (Ai.one hus) q3.2 hbb;grind
 ·rw [hid]at k5;subst h0 hxs;obtain⟨v',w',s_,aah,hg,hfr⟩:=IY (P:=P) (w:=w) t o.type E0 i z 1 by' hty hi hz hsz hby hzs (by omega) p ⟨bq,0,none⟩ 1 ann [vr] (by simp) adG (by omega) (by omega) (by simpa using hbb);exact main (.slice none 0 0) v' w' (by grind) k5.symm (by grind) ⟨by simp, .inl ⟨rfl,rfl⟩⟩ (by grind) hg (.inr hfr)
end
end Go.PL
namespace Go.PL
open Go Go.RowKit
inductive Stp where
 | a
 | v (x:V)
 | c (r:V)
 | e (len:Nat) (cs:List C)
 | D (x:DS)
def mP (s:Stp) (len:Nat) (cs:List C) (k:Nat->List C->List Prop->Option (List Prop×St)):Option (List Prop×St):=
 match s with
 | .e abV cs'=>k abV cs' [len=abV/\cs=cs']
 | _=>k len cs []
theorem Qh {s:Stp} {len:Nat} {cs:List C} {k:Nat->List C->List Prop->Option (List Prop×St)} {r:List Prop×St} (h:mP s len cs k=some r):
 ∃ abV cs' l,k abV cs' l=some r/\(AX l->len=abV/\cs=cs'):=by
 cases s<;>simp only [mP]at h<;>first
  | exact⟨_,_,_,h,fun q=>q.1⟩
  | grind
def Qi (id:Ah) (len:Nat):List Au->Prop
 | []=>True
 | e::es=>match e.id==id with
   | true=>i7 len e.row=e.row/\Qi id len es
   | false=>Qi id len es
def St.aoa (st:St) (id:Ah) (cs:List C) (q:Bool) (len:Nat):St:={st with so:=st.so.map fun e=>match e.id==id with
 | true=>⟨e.id,i7 len e.row,cs,e.pu&&q⟩
 | false=>e}
theorem po {st:St} {id:Ah} {cs:List C} {q:Bool} {len:Nat} (h:Qi id len st.so):st.aoa id cs q len=st.acY id cs q:=by
 have: ∀ l:List Au,Qi id len l->(l.map fun e=>match e.id==id with
  | true=>(⟨e.id,i7 len e.row,cs,e.pu&&q⟩:Au)
  | false=>e)=l.map fun e=>if e.id==id then(⟨e.id,e.row,cs,e.pu&&q⟩:Au)else e:=by
  intro l;induction l<;>grind [Qi]
 unfold St.aoa St.acY;rw [this st.so h]
def mQ (P:Program) (st:St) (s:Stp) (d:Option Nat) (T:TypeId) (l:List Prop) (x y:V):Option (List Prop×St):=
 match x,y.cells,KS P T with
 | .c (.ptr id off),some cs,some (_,n)=>match st.look id with
   | some e=>match s with
     | .e abV cs'=>Wo (cs.length==n) (l++[off+n<=e.cs.length/\e.cs.take off++cs++e.cs.drop (off+cs.length)=cs',Qi id abV st.so],(st.aoa id cs' (Am cs) abV).put d .undef)
     | _=>Wo (cs.length==n&&Nat.ble (off+n) e.cs.length) (l,(st.acY id (e.cs.take off++cs++e.cs.drop (off+cs.length)) (Am cs)).put d .undef)
   | none=>none
 | _,_,_=>none
theorem Rn {P:Program} {st a_:St} {s:Stp} {d:Option Nat} {T:TypeId} {l l':List Prop} {x y:V} (h:mQ P st s d T l x y=some (l',a_)) (hl:AX l'):
 AX l/\(Hs P st T x y).1/\(Hs P st T x y).2.put d .undef =a_:=by
 unfold mQ at h;unfold Hs;split at h
 ·rename_i id off cs ag n h1 h2;split at h
  ·rename_i e he;split at h
   ·rename_i len cs';obtain⟨hb,hr⟩:=BP h;simp only [injEq]at hr;obtain⟨rfl,rfl⟩:=hr;obtain⟨q1,q2,q3,_⟩:=Ak.1 hl;grind [po]
   ·obtain⟨hb,hr⟩:=BP h;simp_all
  ·cases h
 ·cases h
def AbF (st:St) (n:Nat):V->Option (List Prop×Nat×List C×Bool)
 | .c (.sl m cs)=>some ([cs.length=m*n],m,cs,true)
 | .c (.j_ id)=>match st.look id with
   | some e=>match e.row with
     | some (_,n',m)=>Wo (n'==n) ([],m,e.cs,e.pu)
     | none=>none
   | none=>none
 | _=>none
theorem mR {st:St} {n:Nat} {x:V} {l:List Prop} {r:Nat×List C×Bool} (h:AbF st n x=some (l,r)) (hl:AX l):Rc st n x=some r:=by
 unfold AbF at h;unfold Rc;split at h
 ·simp only [Option.some.injEq,injEq]at h;obtain⟨rfl,rfl⟩:=h;exact if_pos hl.1
 ·split at h
  ·rename_i h1;split at h
   ·rename_i h2;obtain⟨hb,hr⟩:=BP h;grind
   ·cases h
  ·cases h
 ·cases h
def eO (P:Program) (st:St) (s:Stp) (d:Nat) (t:TypeId) (l:List Prop) (u x:V):Option (List Prop×St):=
 match u,DR P t with
 | .c (.j_ id),some (E,n,by')=>match st.look id,AbF st n x with
   | some e,some (l2,m,cs,q)=>match e.row with
     | some (E',n',len)=>match E'==E&&n'==n&&Nat.blt 0 n with
       | true=>mP s (len+m) (e.cs++cs) fun abV cs' l3=>
         some (l++(l2++(l3++[(len+m)*by'<=140737488355328/\len+m<=maxLen])),(st.new ⟨id,some (E,n,abV),cs',e.pu&&q⟩).put (some d) (.c (.j_ id)))
       | false=>none
     | none=>none
   | _,_=>none
 | _,_=>none
theorem Z9 {P:Program} {st a_:St} {s:Stp} {d:Nat} {t:TypeId} {l l':List Prop} {u x:V} (h:eO P st s d t l u x=some (l',a_)) (hl:AX l'):
 AX l/\(GM P st d t u x).1/\(GM P st d t u x).2=a_:=by
 unfold eO at h;unfold GM;split at h
 ·rename_i id E n by' h1;split at h
  ·rename_i e l2 m cs q h2 h3;split at h
   ·rename_i E' n' len h4;split at h
    ·rename_i hb;obtain⟨abV,cs',l3,hk,ht⟩:=Qh h;simp only [Option.some.injEq,injEq]at hk;obtain⟨rfl,rfl⟩:=hk;obtain⟨q1,q2⟩:=Ak.1 hl;obtain⟨q2,q3⟩:=Ak.1 q2;obtain⟨q3,q4,_⟩:=Ak.1 q3;obtain⟨rfl,rfl⟩:=ht q3;simp only [and_eq_true,beq_iff_eq,Nat.blt_eq]at hb;simp only [h1,h2,mR h3 q2,h4];grind
    ·cases h
   ·cases h
  ·cases h
 ·cases h
def tN (P:Program) (st:St) (s:Stp) (d:Nat) (t:TypeId) (l:List Prop) (x y:V):Option (List Prop×St):=
 match x,y,s with
 | .c (.bsl id off len), .c (.bsl id2 afn abf), .e abV cs'=>match Dt P t with
   | some (_,1)=>match st.look id,st.look id2 with
     | some e,some e2=>Wo (Nat.ble (off+Nat.min abf len) e.cs.length&&Nat.ble (afn+Nat.min abf len) e2.cs.length) (l++[e.cs.take off++(e2.cs.drop afn).take (Nat.min abf len)++e.cs.drop (off+((e2.cs.drop afn).take (Nat.min abf len)).length)=cs',Qi id abV st.so],
      (st.aoa id cs' (Am ((e2.cs.drop afn).take (Nat.min abf len))) abV).put (some d) (.c (.int .i64 (Nat.min abf len:Nat))))
     | _,_=>none
   | _=>none
 | _,_,_=>none
theorem i8 {P:Program} {st a_:St} {s:Stp} {d:Nat} {t:TypeId} {l l':List Prop} {x y:V} (h:tN P st s d t l x y=some (l',a_)) (hl:AX l'):
 AX l/\(UG P st d t x y).1/\(UG P st d t x y).2=a_:=by
 unfold tN at h;unfold UG;split at h
 ·rename_i id off len id2 afn abf abV cs';split at h
  ·rename_i E h0;split at h
   ·rename_i e e2 h1 h2;obtain⟨hb,hr⟩:=BP h;simp only [injEq]at hr;obtain⟨rfl,rfl⟩:=hr;obtain⟨q1,q2,q3,_⟩:=Ak.1 hl;simp_all [po]
   ·cases h
  ·cases h
 ·cases h
def pq (P:Program) (st:St) (s:Stp) (d:Nat) (t:TypeId) (p:List Prop) (l c:V):Option (List Prop×St):=
 match l,c,DR P t with
 | .c (.int _ l), .c (.int _ c),some (E,n,by')=>match Nt P E with
   | some z=>match z.length==n&&Nat.blt 0 n with
     | true=>mP s l.toNat (B7 z l.toNat) fun abV cs' l3=>some (p++(l3++[0<=l/\l<=c/\c*by'<=140737488355328/\c<=maxLen]),(st.new ⟨d::st.pre,some (E,n,abV),cs',true⟩).put (some d) (.c (.j_ (d::st.pre))))
     | false=>none
   | none=>none
 | _,_,_=>none
theorem ja {P:Program} {st a_:St} {s:Stp} {d:Nat} {t:TypeId} {p l':List Prop} {l c:V} (h:pq P st s d t p l c=some (l',a_)) (hl:AX l'):
 AX p/\(K0 P st d t l c).1/\(K0 P st d t l c).2=a_:=by
 unfold pq at h;unfold K0;split at h
 ·rename_i h1;split at h
  ·rename_i h2;split at h
   ·rename_i hb;obtain⟨abV,cs',l3,hk,ht⟩:=Qh h;simp only [Option.some.injEq,injEq]at hk;obtain⟨rfl,rfl⟩:=hk;obtain⟨q1,q2⟩:=Ak.1 hl;obtain⟨q2,q3,_⟩:=Ak.1 q2;obtain⟨rfl,rfl⟩:=ht q2;simp_all
   ·cases h
  ·cases h
 ·cases h
def Kc (st:St) (g:Bool) (ps:List (Nat×Operand)):List Prop×List (Nat×V):=
 match ps with
 | []=>([],[])
 | (i,x)::r=>((AW st g x).1++(Kc st g r).1,(i,(AW st g x).2)::(Kc st g r).2)
theorem SX {st:St} {g:Bool}: ∀ {ps:List (Nat×Operand)},AX (Kc st g ps).1->(st.parts g ps).1/\(st.parts g ps).2=(Kc st g ps).2
 | [],_=>⟨trivial,rfl⟩
 | (i,x)::r,hl=>by obtain⟨h1,h2⟩:=Ak.1 hl;have a:=O6 (st:=st) (g:=g) (x:=x) h1;have b:=SX (st:=st) (g:=g) (ps:=r) h2;simp only [St.parts,Kc];exact⟨⟨a.1,b.1⟩,by rw [a.2,b.2]⟩
def xU (P:Program) (st:St) (s:Stp) (d:Nat) (t:TypeId) (len:Nat) (ps:List (Nat×Operand)):Option (List Prop×St):=
 match DR P t with
 | some (E,n,_)=>match Nt P E with
   | some z=>match Jc (fun i=>some (i*n,n)) (B7 z len) ((Kc st true ps).2.map Rb)with
     | some cs=>match z.length==n&&Nat.blt 0 n&&Nat.ble (len*n) (2 ^ 24)&&Am cs with
       | true=>mP s len cs fun abV cs' l3=>some ((Kc st true ps).1++l3,(st.new ⟨d::st.pre,some (E,n,abV),cs',true⟩).put (some d) (.c (.j_ (d::st.pre))))
       | false=>none
     | none=>none
   | none=>none
 | none=>none
theorem mS {P:Program} {st a_:St} {s:Stp} {d:Nat} {t:TypeId} {len:Nat} {ps:List (Nat×Operand)} {l':List Prop} (h:xU P st s d t len ps=some (l',a_)) (hl:AX l'):
 (Bf P st d t len ps).1/\(Bf P st d t len ps).2=a_:=by
 unfold xU at h;unfold Bf;split at h
 ·rename_i h1;split at h
  ·rename_i h2;split at h
   ·rename_i h3;split at h
    ·rename_i hb;obtain⟨abV,cs',l3,hk,ht⟩:=Qh h;simp only [Option.some.injEq,injEq]at hk;obtain⟨rfl,rfl⟩:=hk;obtain⟨q1,q2⟩:=Ak.1 hl;obtain⟨rfl,rfl⟩:=ht q2;simp_all [SX]
    ·cases h
   ·cases h
  ·cases h
 ·cases h
def tO (P:Program) (st:St) (s:Stp) (o:Oper):Option (List Prop×St):=
 match o.op with
 | .store T x y=>mQ P st s o.dst T ((AW st true x).1++(AW st true y).1) (AW st true x).2 (VJ st (AW st true x).2 (mt y (AW st true y).2))
 | op=>match o.dst with
   | none=>none
   | some d=>match op with
     | .alloc T=>match UF P T with
       | some cs=>some ([],(st.new ⟨d::st.pre,none,cs,false⟩).put (some d) (.c (.ptr (d::st.pre) 0)))
       | none=>none
     | .box _ x=>match (AW st true x).2.cells with
       | some cs=>some ((AW st true x).1,(st.new ⟨d::st.pre,none,cs,false⟩).put (some d) (.c (.ptr (d::st.pre) 0)))
       | none=>none
     | .assign (.const (.slice none 0 0))=>match Dt P o.type with
       | some (E,n)=>some ([],(st.new ⟨d::st.pre,some (E,n,0),[],true⟩).put (some d) (.c (.j_ (d::st.pre))))
       | none=>none
     | .buildSlice t len ps=>xU P st s d t len ps.toList
     | .makeSlice t l c=>pq P st s d t ((AW st true l).1++(AW st true c).1) (AW st true l).2 (AW st true c).2
     | .call c=>match c.callee,c.args.toList,c.argTypes.toList with
       | .builtin .append,[u,x],[t,t']=>match t==t' with
         | true=>eO P st s d t ((AW st true u).1++(AW st true x).1) (AW st true u).2 (AW st true x).2
         | false=>none
       | .builtin .copy,[u,x],[t,_]=>tN P st s d t ((AW st true u).1++(AW st true x).1) (AW st true u).2 (AW st true x).2
       | _,_,_=>none
     | _=>none
theorem SY {P:Program} {st a_:St} {s:Stp} {o:Oper} {l:List Prop} (h:tO P st s o=some (l,a_)) (hl:AX l):(PL.ef P st o).1/\(PL.ef P st o).2=a_:=by
 have A: ∀ x,AX (AW st true x).1->(st.arg true x).1/\(st.arg true x).2=(AW st true x).2:=fun x hx=>O6 hx;obtain⟨dst,op,ty,pos,aft,gd⟩:=o;cases op<;>cases dst<;>simp only [tO]at h<;>simp only [PL.ef]<;>try (cases h;done)
 case store.none T x y=>
  have:=Rn h hl;grind [Ak]
 case store.some T x y d=>
  have:=Rn h hl;grind [Ak]
 case alloc.some T d=>
  grind
 case box.some T x d=>
  grind
 case assign.some x d=>
  grind
 case buildSlice.some t len ps d=>exact mS h hl
 case makeSlice.some t a b d=>
  have:=ja h hl;grind [Ak]
 case call.some c d=>
  split at h
  ·rename_i u x t t' h1 h2 h3;split at h
   ·rename_i hb;obtain rfl:t=t':=by grind
    have:=Z9 h hl;simp_all [Ak]
   ·cases h
  ·rename_i u x t t' h1 h2 h3;have:=i8 h hl;simp_all [Ak]
  ·cases h
def Stp.u:Stp->Option V
 | .v x=>some x
 | _=>none
def dNw (P:Program) (st:St) (o:Oper) (t:Option (Nat×List C)):Option (List Prop×St):=match BH o.op,tO P st (match t with
    | none=> .a
    | some (l,cs)=> .e l cs) o,o.dst with
 | .ef,some (l,st1),some d=>match st1.get d with
   | .c (.j_ r)=>match st1.look r with
     | some er=>match er.row,er.pu with
       | some (E,n,len),true=>some (l++[er.cs.all lZ=true],(st1.e_ (fun i=>i==r||(i==1000003::r||DM (1000003::r) i)) (⟨1000003::r,some (E,n,len),er.cs,true⟩::((st1.so.filter (fun d=>d.id != r&&d.id != 1000003::r)).map (Au.e_ (fun i=>i==r||(i==1000003::r||DM (1000003::r) i)))))).put (some d) (.c (.j_ (1000003::r))))
       | _,_=>none
     | none=>none
   | _=>none
 | _,_,_=>none
theorem xV {P:Program} {I:World->Prop} {o:Oper} {st a_:St} {K:St->Prop} {t:Option (Nat×List C)} {l:List Prop} (h:dNw P st o t=some (l,a_)) (hl:AX l) (hK:K a_):DL P I o st K:=by
 unfold dNw at h;split at h
 case h_2=>cases h
 rename_i l1 st1 d hk hef af1;split at h
 case h_2=>cases h
 rename_i r atM;split at h
 case h_2=>cases h
 rename_i er her;split at h
 case h_2=>cases h
 rename_i E n len A_ hpu;simp only [Option.some.injEq,injEq]at h;obtain⟨rfl,rfl⟩:=h;obtain⟨q1,q2,_⟩:=Ak.1 hl;intro F a w G Q hI hR;obtain⟨h1,h2⟩:=SY hef q1;have hs:qY P F.I o st (fun s'=>s'=st1):=by grind [qY]
 refine Oper.wp_mono (fun a' w' ⟨s',G',hs',hR'⟩=>?_) (O5 hR hs);subst hs';obtain⟨G2,g1,g2⟩:=hR'.anl her A_ hpu q2 (id:=1000003::r) rfl rfl;have hv:=hR'.w_ d;rw [show s'.tm.getD d .undef = .c (.j_ r)from atM]at hv;simp only [Ab,Ae]at hv;exact⟨_,G2,hK,g1.aeS (by grind [Ab,Ae])⟩
def dBs (P:Program) (st:St) (o:Oper):Option (List Prop×St):=match o.op,o.dst with
 | .buildSlice t len ps,some d=>match DR P t with
   | some (E,n,_)=>match Nt P E with
     | some z=>match Jc (fun i=>some (i*n,n)) (B7 z len) ((Kc st true ps.toList).2.map Rb)with
       | some cs=>match z.length==n&&Nat.blt 0 n&&Nat.ble (len*n) (2 ^ 24)with
         | true=>some ((Kc st true ps.toList).1,(st.new ⟨d::st.pre,some (E,n,len),cs,Am cs⟩).put (some d) (.c (.j_ (d::st.pre))))
         | false=>none
       | none=>none
     | none=>none
   | none=>none
 | _,_=>none
theorem rq {P:Program} {o:Oper} {st a_:St} {l:List Prop} (h:dBs P st o=some (l,a_)) (hl:AX l):BH o.op= .ef /\(PL.ef P st o).1/\(PL.ef P st o).2=a_:=by
 obtain⟨dst,op,ty,pos,aft,gd⟩:=o;unfold dBs at h;simp only at h;split at h
 case h_2=>cases h
 rename_i t len ps d;refine⟨rfl,?_⟩;simp only [PL.ef];unfold Bf;split at h
 ·rename_i h1;split at h
  ·rename_i h2;split at h
   ·rename_i h3;split at h
    ·rename_i hb;simp only [Option.some.injEq,injEq]at h;obtain⟨rfl,rfl⟩:=h;simp_all [SX]
    ·cases h
   ·cases h
  ·cases h
 ·cases h
def tP (P:Program) (st:St) (o:Oper):DS->Option (List Prop×St)
 | .ld E n len cs=>dLd P st o E n len cs
 | .ix E n len cs=>dIx P st o E n len cs
 | .rd E n len cs u=>dRd P st o E n len cs u
 | .ln E n len cs=>dLn P st o E n len cs
 | .st E n len ln cs cells=>dSt P st o E n len ln cs cells
 | .ps cells=>dPs P st o cells
 | .ab cells=>dAb P st o cells
 | .lx E n len cs=>dLx P st o E n len cs
 | .nw t=>dNw P st o t
 | .bs =>dBs P st o
 | .aa ln cells=>dAa P st o ln cells
theorem rr {P:Program} {I:World->Prop} {o:Oper} {st a_:St} {K:St->Prop} {x:DS} {l:List Prop} (h:tP P st o x=some (l,a_)) (hl:AX l) (hK:K a_):qY P I o st K:=by
 cases x<;>simp only [tP]at h
 case bs=>
  obtain⟨h1,h2,h3⟩:=rq h hl;grind [qY]
 all_goals refine .inl ?_
 ·exact xL h hl hK
 ·exact xM h hl hK
 all_goals grind [xN,xO,xP,xQ,xR,xS,xV,xT]
def Ke (P:Program) (I:World->Prop) (dr:Bool) (ops:Array Oper) (o:Oper) (s:Stp) (st:St):Option (List Prop×St):=
 match o.guard with
 | none=>match BH o.op with
   | .rd =>match opT P st true s.u o.op with
     | some (l,v)=>some (l,st.put o.dst v)
     | none=>none
   | .cut x=>match dr with
     | true=>match opT P st true s.u o.op with
       | some (l,v)=>some (l,st.put o.dst v)
       | none=>none
     | false=>match opT P (st.cutAt true x) true s.u o.op with
       | some (l,v)=>some (l,(st.cutAt true x).put o.dst v)
       | none=>none
   | .ef =>match dr with
     | true=>none
     | false=>tO P st s o
   | .call f xs=>match s with
     | .c r=>match Cq ((Ip st true xs).2.map (BF st))&&(r.flat||(!dr&&Nat.ble (C7 (Ip st true xs).2).length 1&&(C7 (Ip st true xs).2).all st.ab9))with
       | true=>some ((Ip st true xs).1++[BV P I f ((Ip st true xs).2.map (BF st)) (· =r)],match dr with
         | true=>st.put o.dst r
         | false=>st.after (C7 (Ip st true xs).2) o.dst r)
       | false=>none
     | _=>none
   | .no =>none
 | some (j,want)=>match Ia st ops j want with
   | some g=>match BH o.op with
     | .rd =>match opT P st g s.u o.op with
       | some ([],v)=>some ([],st.put o.dst (.g g v))
       | some (l,v)=>some ([g=true->AX l],st.put o.dst (.g g v))
       | none=>none
     | .cut _=>match dr with
       | true=>match opT P st g s.u o.op with
         | some ([],v)=>some ([],st.put o.dst (.g g v))
         | some (l,v)=>some ([g=true->AX l],st.put o.dst (.g g v))
         | none=>none
       | false=>none
     | .call f xs=>match s with
       | .c r=>match Cq ((Ip st g xs).2.map (BF st))&&(r.flat||(!dr&&(C7 (Ip st g xs).2).isEmpty))with
         | true=>some ([g=true->AX (Ip st g xs).1/\BV P I f ((Ip st g xs).2.map (BF st)) (· =r)],st.put o.dst (.g g r))
         | false=>none
       | _=>none
     | .ef =>match dr with
       | true=>none
       | false=>match tO P st s o with
         | some (l,a_)=>some (l++[g=true],a_)
         | none=>none
     | _=>none
   | none=>none
def K5 (P:Program) (I:World->Prop) (dr:Bool) (ops:Array Oper) (o:Oper) (s:Stp) (st:St):Option (List Prop×St):=
 match s with
 | .D x=>match dr,o.guard with
   | false,none=>tP P st o x
   | _,_=>none
 | s=>Ke P I dr ops o s st
def Jk (P:Program) (I:World->Prop) (dr:Bool) (ops:Array Oper):List Oper->List Stp->St->Option (List Prop×St)
 | [],[],st=>some ([],st)
 | o::rest,s::ss,st=>match K5 P I dr ops o s st with
   | some (l,a_)=>match Jk P I dr ops rest ss a_ with
     | some (l',aqe)=>some (l++l',aqe)
     | none=>none
   | none=>none
 | _,_,_=>none
theorem tQ {st:St} {g:Bool} {x:Operand}:(st.arg g x).2=(AW st g x).2:=by grind [AW,St.arg]
theorem cl {st:St} {g:Bool}: ∀ {xs:List Operand},(st.args g xs).2=(Ip st g xs).2
 | []=>rfl
 | x::xs=>by simp only [St.args,Ip,tQ,cl (xs:=xs)]
theorem xW {P:Program} {I:World->Prop} {ops:Array Oper} {o:Oper} {x:DS} {st a_:St} {l:List Prop} {K:St->Prop} (h:K5 P I false ops o (.D x) st=some (l,a_)) (hl:AX l) (hK:K a_):bY P I ops o st K:=by grind [K5,bY,rr]
theorem Ro {P:Program} {I:World->Prop} {ops:Array Oper} {o:Oper} {s:Stp} {st a_:St} {l:List Prop} {K:St->Prop} (h:K5 P I false ops o s st=some (l,a_)) (hl:AX l) (hK:K a_):bY P I ops o st K:=by
 by_cases hD: ∃ x,s= .D x
 ·obtain⟨x,rfl⟩:=hD;exact xW h hl hK
 replace h:Ke P I false ops o s st=some (l,a_):=by cases s<;>first | exact h | grind
 unfold Ke at h;unfold bY;split at h
 ·rename_i hg;rw [hg];simp only;unfold qY;right;split at h
  ·rename_i hk;simp only [hk];split at h
   ·rename_i l v ho;simp only [Option.some.injEq,injEq]at h;obtain⟨rfl,rfl⟩:=h;grind [O7]
   ·cases h
  ·rename_i x hk;simp only [hk];dsimp only at h;split at h
   ·rename_i l v ho;simp only [Option.some.injEq,injEq]at h;obtain⟨rfl,rfl⟩:=h;grind [O7]
   ·cases h
  ·grind [SY]
  ·rename_i f xs hk;simp only [hk];split at h
   ·rename_i r;split at h
    ·rename_i hb;simp only [Option.some.injEq,injEq]at h;obtain⟨rfl,rfl⟩:=h;obtain⟨q1,q2,_⟩:=Ak.1 hl;obtain⟨k1,k2⟩:=Rk q1;simp only [and_eq_true,or_eq_true,Bool.not_false,true_and,Nat.ble_eq,all_eq_true]at hb;grind
    ·cases h
   ·cases h
  ·cases h
 ·rename_i j want hg;rw [hg];simp only;split at h
  ·rename_i g hq;rw [hq];simp only;unfold wpG;by_cases hef:BH o.op= .ef
   ·left;rw [hef]at h;dsimp only at h;split at h
    ·rename_i l1 st1 h1;simp only [Option.some.injEq,injEq]at h;obtain⟨rfl,rfl⟩:=h;obtain⟨q1,q2,_⟩:=Ak.1 hl;grind [qY,SY]
    ·cases h
   right;split at h
   ·rename_i hk;simp only [hk];split at h
    ·rename_i v ho;simp only [Option.some.injEq,injEq]at h;obtain⟨rfl,rfl⟩:=h;exact⟨v,fun _=>O7 ho trivial,hK⟩
    ·rename_i l v Tg ho;simp only [Option.some.injEq,injEq]at h;obtain⟨rfl,rfl⟩:=h;exact⟨v,fun hgt=>O7 ho (hl.1 hgt),hK⟩
    ·cases h
   ·cases h
   ·rename_i f xs hk;simp only [hk];split at h
    ·rename_i r;split at h
     ·rename_i hb;simp only [Option.some.injEq,injEq]at h;obtain⟨rfl,rfl⟩:=h;simp only [and_eq_true,or_eq_true,Bool.not_false,true_and,List.isEmpty_iff]at hb;refine⟨fun hgt=>?_,r,(by grind [cl]),fun hgt=>?_,hK⟩
      ·obtain⟨k1,k2⟩:=Rk (hl.1 hgt).1;grind
      ·obtain⟨k1,k2⟩:=Rk (hl.1 hgt).1;rw [k2];exact(hl.1 hgt).2
     ·cases h
    ·cases h
   all_goals grind
  ·cases h
theorem eP {P:Program} {I:World->Prop} {ops:Array Oper}: ∀ {l:List Oper} {ss:List Stp} {st a_:St} {cs:List Prop} {K:St->Prop},Jk P I false ops l ss st=some (cs,a_)->AX cs->K a_->DY P I ops l st K
 | [],[],st,a_,cs,K,h,_,hK=>by simp only [Jk,Option.some.injEq,injEq]at h;obtain⟨rfl,rfl⟩:=h;exact hK
 | o::rest,s::ss,st,a_,cs,K,h,hl,hK=>by
   simp only [Jk]at h;split at h
   ·rename_i l1 st1 h1;split at h
    ·rename_i l2 st2 h2;simp only [Option.some.injEq,injEq]at h;obtain⟨rfl,rfl⟩:=h;obtain⟨q1,q2⟩:=Ak.1 hl;exact Ro (K:=fun s=>DY P I ops rest s K) h1 q1 (eP h2 q2 hK)
    ·cases h
   ·cases h
 | [],_::_,_,_,_,_,h,_,_=>by simp [Jk]at h
 | _::_,[],_,_,_,_,h,_,_=>by simp [Jk]at h
section
variable {P:Program} {F:Fr} {st:St}
theorem Ad.reg {id:Nat} {l:List Oper} {Q:Exit->St->Prop} {ss:List Stp} {cs:List Prop} {a_:St} (hr:Jk P F.I false l.toArray l ss st=some (cs,a_)) (hl:AX cs) (h:Q .normal a_):Ad P F (.region id l.toArray false) st Q:=
 Ad.region (eP hr hl h)
theorem Ad.ifB {c:Operand} {x y:Code} {Q:Exit->St->Prop} (b:Bool) (hc:st.ev c= .c (.bool b)) (h1:b=true->Ad P F x st Q) (h2:b=false->Ad P F y st Q):Ad P F (.cond c x y) st Q:=Ad.cond hc h1 h2
def iter {σ ρ:Type} (B:σ->Option (σ⊕ρ)):Nat->σ->Option ρ
 | 0,_=>none
 | n+1,s=>match B s with
   | some (.inl s')=>iter B n s'
   | some (.inr r)=>some r
   | none=>none
end
def Ac (x:Int):Int:=IntKind.i64.wrap x
def gd {α:Type} [Inhabited α] (g:Bool) (o:Option α):Option α:=if g then o else some default
def idx {α:Type} [Inhabited α] (l:List α) (i:Int):Option α:=if 0<=i/\i<l.length then some (l.getD i.toNat default)else none
def SZ (s:List UInt8) (i:Int):Option Int:=if 0<=i/\i<s.length then some (s.getD i.toNat 0).toNat else none
def cat (a b:List UInt8):Option (List UInt8):=if a.length+b.length<=maxLen then some (a++b)else none
def Xb (s:List UInt8) (a b:Int):Option (List UInt8):=if 0<=a/\a<=b/\b<=s.length then some ((s.drop a.toNat).take (b.toNat - a.toNat))else none
def eQ {α:Type} (s:List α) (a b:Int):Option (List α):=if 0<=a/\a<=b/\b<=s.length then some ((s.drop a.toNat).take (b.toNat - a.toNat))else none
def app {α:Type} (by':Nat) (l m:List α):Option (List α):=if(l.length+m.length)*by'<=140737488355328/\l.length+m.length<=maxLen then some (l++m)else none
def n_ (p:Prop) [Decidable p]:Option Unit:=if p then some ()else none
theorem bS {α β:Type} {o:Option α} {k:α->Option β} {r:β} (h:o.bind k=some r): ∃ x,o=some x/\k x=some r:=by cases o<;>grind
theorem sI {α:Type} {x y:α} (h:some x=some y):x=y:=Option.some.inj h
section
variable {α:Type} [Inhabited α] {l m r:List α} {i:Int} {x:α} {g:Bool}
theorem L7 (h:idx l i=some x):0<=i/\i<l.length:=by grind [idx]
theorem jb (h:idx l i=some x):x=l.getD i.toNat default:=by grind [idx]
theorem mT {o:Option α} (h:gd g o=some x):g=true->o=some x:=fun hg=>by simp_all [gd]
theorem AbG (h:gd g (idx l i)=some x):g=true->(0<=i/\i<l.length)/\True:=fun hg=>⟨L7 (mT h hg),trivial⟩
theorem AbH {s:List UInt8} {n:Int} (h:SZ s i=some n):0<=i/\i<s.length:=by grind [SZ]
theorem AbI {s:List UInt8} {n:Int} (h:SZ s i=some n):n=(s.getD i.toNat 0).toNat :=by grind [SZ]
theorem Aek {a b c:List UInt8} (h:cat a b=some c):a.length+b.length<=maxLen:=by grind [cat]
theorem Ael {a b c:List UInt8} (h:cat a b=some c):c=a++b:=by grind [cat]
theorem AbJ {s c:List UInt8} {a b:Int} (h:Xb s a b=some c):0<=a/\a<=b/\b<=s.length:=by grind [Xb]
theorem AbK {s c:List UInt8} {a b:Int} (h:Xb s a b=some c):c=(s.drop a.toNat).take (b.toNat - a.toNat):=by grind [Xb]
omit [Inhabited α] in
theorem Kf {b:Nat} (h:app b l m=some r):(l.length+m.length)*b<=140737488355328/\l.length+m.length<=maxLen:=by grind [app]
omit [Inhabited α] in
theorem tR {b:Nat} (h:app b l m=some r):r=l++m:=by grind [app]
end
theorem CJ {p:Prop} [Decidable p] {u:Unit} (h:n_ p=some u):p:=by grind [n_]
def eI (k:IntKind) (v:Int):List C:=[.int k v]
def eB (v:Bool):List C:=[.bool v]
def eS (v:List UInt8):List C:=[.str v]
def eL {α:Type} (e:α->List C) (l:List α):List C:=[.sl l.length (l.flatMap e)]
theorem eR {α:Type} [Inhabited α] {l:List α} {i:Int} {x:α} {e:α->List C} {N:Nat} {o n:Nat} {ag:Bool} {v:V} {off:Nat} (hx:idx l i=some x) (hN: ∀ y,(e y).length =N) (ace:off=i.toNat*N+o) (ho:o+n<=N) (h0:ag=true\/0<n)
 (hv:toV ag o n (e x)=v):off+n<=(l.flatMap e).length /\toV ag off n (l.flatMap e)=v:=by
 have hb:=L7 hx;have hxx:=jb hx;have hlt:i.toNat<l.length:=by omega
 subst ace;rw [BO hN];constructor
 ·have:(i.toNat+1)*N<=l.length*N:=Nat.mul_le_mul_right _ hlt;grind
 ·rw [<-hv];unfold toV;cases ag with
  | true=>simp only [if_true];grind [cg]
  | false=>simp only [Bool.false_eq_true,if_false];grind [tD]
def tS (P:Program) (st:St):ResultVar->Option V
 | .tmp t=>some (st.get t)
 | .cell t T=>match pj P T st [] (st.get t)with
   | some (_,v)=>some v
   | none=>none
def cm (P:Program) (st:St):List ResultVar->Option (List V)
 | []=>some []
 | x::xs=>match tS P st x,cm P st xs with
   | some v,some vs=>some (v::vs)
   | _,_=>none
def tT (P:Program) (st:St):List ResultVar->Option V
 | [x]=>tS P st x
 | xs=>match cm P st xs with
   | some vs=>some (.tup vs)
   | none=>none
theorem Xc {P:Program} {st:St} {x:ResultVar} {v:V} (h:tS P st x=some v):(Px P st x).1/\(Px P st x).2=v:=by
 cases x with
 | tmp t=>simp only [tS,Option.some.injEq]at h;exact⟨trivial,h⟩
 | cell t T=>
   simp only [tS]at h;split at h
   ·rename_i l u hl;injection h with h;subst h;have:=UR hl;exact⟨this.2.1,this.2.2⟩
   ·cases h
theorem UV {P:Program} {st:St}: ∀ {xs:List ResultVar} {vs:List V},cm P st xs=some vs->(CN P st xs).1/\(CN P st xs).2=vs
 | [],vs,h=>by simp only [cm,Option.some.injEq]at h;subst h;exact⟨trivial,rfl⟩
 | x::xs,vs,h=>by
   simp only [cm]at h;split at h
   ·rename_i v us h1 h2;injection h with h;subst h;have a:=Xc h1;have b:=UV h2;exact⟨⟨a.1,b.1⟩,by simp only [CN,a.2,b.2]⟩
   ·cases h
theorem jc {P:Program} {st:St} {x:ResultVar}:(Rj P st x).1=(Px P st x).1/\(Rj P st x).2=BF st (Px P st x).2:=by cases x<;>exact⟨rfl,rfl⟩
theorem cn {P:Program} {st:St}: ∀ {xs:List ResultVar},(Gr P st xs).1=(CN P st xs).1/\(Gr P st xs).2=(CN P st xs).2.map (BF st)
 | []=>⟨rfl,rfl⟩
 | x::xs=>by have a:=jc (P:=P) (st:=st) (x:=x);have b:=cn (P:=P) (st:=st) (xs:=xs);simp only [Gr,CN,a.1,a.2,b.1,b.2,map_cons,and_self]
def tU (st:St) (rs:List ResultVar):V->V
 | .tup vs=>match rs with
   | [_]=> .tup vs
   | _=> .tup (vs.map (BF st))
 | v=>BF st v
theorem pt {P:Program} {st:St} {rs:List ResultVar} {v r:V} {e:Exit} (he:e= .normal \/e= .ret) (h:tT P st rs=some v) (hs:tU st rs v=r) (hp:r.pure=true) {r':V} (hr:r=r'):
 (e= .normal \/e= .ret)/\(DH P st rs).1/\(DH P st rs).2.pure =true/\(DH P st rs).2=r':=by
 subst hr;have key:(DH P st rs).1/\(DH P st rs).2=r:=by
  match rs with
  | [x]=>
    have a:=Xc h;have b:=jc (P:=P) (st:=st) (x:=x);simp only [DH];rw [b.1,b.2,a.2, <-hs];exact⟨a.1,by cases v<;>rfl⟩
  | []=>
    simp only [tT,cm,Option.some.injEq]at h;subst h;subst hs;exact⟨trivial,rfl⟩
  | x::y::xs=>
    simp only [tT]at h;split at h
    ·rename_i vs hv;injection h with h;subst h;have a:=UV hv;have b:=cn (P:=P) (st:=st) (xs:=x::y::xs);simp only [DH];rw [b.1,b.2,a.2, <-hs];exact⟨a.1,rfl⟩
    ·cases h
 grind
def UW:List Bool->List V->List V
 | [],_=>[]
 | true::m,v::vs=>v::UW m vs
 | false::m,_::vs=> .undef ::UW m vs
 | _::_,[]=>[]
theorem pv: ∀ {m:List Bool} {l l':List V},m.length=l.length->UW m l=l'->iP l l'
 | [],[],l',_,h=>by simp only [UW]at h;subst h;trivial
 | true::m,v::vs,l',hl,h=>by simp only [UW]at h;subst h;exact⟨.inr rfl,pv (by grind) rfl⟩
 | false::m,v::vs,l',hl,h=>by simp only [UW]at h;subst h;exact⟨.inl rfl,pv (by grind) rfl⟩
 | [],_::_,_,hl,_=>by simp at hl
 | _::_,[],_,hl,_=>by simp at hl
section
variable {P:Program} {F:Fr} {st:St}
end
theorem Agt {α β γ:Type} {f:α->γ} {g:β->γ} {a:α} {r:γ} (h:Sum.elim f g (.inl a)=r):f a=r:=h
theorem Agu {α β γ:Type} {f:α->γ} {g:β->γ} {a:β} {r:γ} (h:Sum.elim f g (.inr a)=r):g a=r:=h
def FU:Nat:=9223372036854775807
theorem eT {α:Type} [Inhabited α] {l:List α} {i:Int} {x:α} {e:α->List C} {N:Nat} {o n base:Nat} {ag:Bool} {v:V} {off:Nat} {cs pre post:List C} (hcs:cs=pre++(l.flatMap e++post)) (hb:pre.length=base) (hx:idx l i=some x) (hN: ∀ y,(e y).length =N) (ace:off=base+(i.toNat*N+o)) (ho:o+n<=N) (h0:ag=true\/0<n)
 (hv:toV ag o n (e x)=v):off+n<=cs.length/\toV ag off n cs=v:=by
 obtain⟨h1,h2⟩:=eR hx hN rfl ho h0 hv;subst hcs ace hb;constructor
 ·grind
 ·rw [<-h2];unfold toV;cases ag with
  | true=>
    simp only [if_true];rw [<-drop_drop,drop_left,List.drop_append_of_le_length (by omega),List.take_append_of_le_length (by simp only [List.length_drop];omega)]
  | false=>
    grind
end Go.PL
namespace Go.PL
open Go Go.RowKit
def Ew (n k:Nat):List Bool:=(List.range k).map (Nat.testBit n)
theorem rt (n k:Nat):(Ew n k).length =k:=by simp [Ew]
theorem cq (n k i:Nat):(Ew n k).toArray.setIfInBounds i true=(Ew (n||| 2 ^ i) k).toArray :=by
 apply Array.ext
 ·simp [Ew]
 ·intro j h1 h2;have hj:j<k:=by simpa [Ew] using h2
  have e:((Ew n k).toArray.setIfInBounds i true).toList =(Ew n k).set i true:=by simp
  have e2:((Ew n k).toArray.setIfInBounds i true)[j]=((Ew n k).set i true)[j]'(by grind):=by grind
  grind [Ew]
def afm (ops:Array Oper) (n:Nat):List Nat:=Region.ready .any ops (Ew n ops.size).toArray
def Wq (ops:Array Oper) (nodes:List Nat):Bool:=
 nodes.contains 0&&nodes.all fun n=>(!(afm ops n).isEmpty ||(Ew n ops.size).all id)&&(afm ops n).all fun i=>nodes.contains (n||| 2 ^ i)
def tV (ids:List Ah) (st:St):St:={st with so:=ids.filterMap fun i=>st.so.find? fun e=>e.id==i}
theorem cr (ids:List Ah) (hn:ids.Nodup) (st:St):B8 st (tV ids st) where
 len:=rfl
 tm:=fun _=> .inr rfl
 so:=(by grind [tV])
 nd:=fun _=>by
  have: ∀ ids:List Ah,((ids.filterMap fun i=>st.so.find? fun e=>e.id==i).map (·.id)).Sublist ids:=by
   intro ids;induction ids with
   | nil=>simp
   | cons i ids ih=>
     simp only [List.filterMap_cons];split
     all_goals grind
  exact List.Sublist.nodup (this ids) hn
 gh:=⟨rfl,fun _=> .inr rfl⟩
 pre:=rfl
def jd (P:Program) (I:World->Prop) (ops:Array Oper) (ss:List Stp) (ids:List Ah) (st:St) (i:Nat):Option (List Prop×St):=
 match ops[i]?,ss[i]? with
 | some o,some s=>match K5 P I false ops o s st with
   | some (c,a_)=>some (c,tV ids a_)
   | none=>none
 | _,_=>none
def Aem (P:Program) (I:World->Prop) (ops:Array Oper) (ss:List Stp) (ids:List Ah) (SL:Nat->St) (nodes:List Nat):List (Option (List Prop×St)):=
 nodes.flatMap fun n=>(afm ops n).map fun i=>jd P I ops ss ids (SL n) i
def AaF (ops:Array Oper) (cs:List (List Prop)) (SL:Nat->St) (nodes:List Nat):List (Option (List Prop×St)):=
 nodes.flatMap fun n=>(afm ops n).map fun i=>some (cs.getD i [],SL (n||| 2 ^ i))
theorem pw {α β:Type} {f g:α->Nat->β} {r:α->List Nat}: ∀ {l:List α},(l.flatMap fun n=>(r n).map (f n))=(l.flatMap fun n=>(r n).map (g n))-> ∀ n∈l, ∀ i∈r n,f n i=g n i
 | [],_,n,hn,_,_=>by simp at hn
 | a::l,h,n,hn,i,hi=>by
   simp only [flatMap_cons]at h;have hh:=List.append_inj h (by simp);rcases mem_cons.1 hn with rfl | hn
   ·simp_all
   ·exact pw hh.2 n hn i hi
def Rq:List (List Prop)->Prop
 | []=>True
 | l::ls=>AX l/\Rq ls
theorem S0: ∀ {cs:List (List Prop)},Rq cs-> ∀ i,AX (cs.getD i [])
 | [],_,i=>by simp [AX]
 | l::ls,h,0=>by simpa using h.1
 | l::ls,h,i+1=>by simpa using S0 h.2 i
section
variable {P:Program} {F:Fr} {st:St} {ops:Array Oper}
theorem O9 {a:Act} {w:World} {G:AF} (h:R F st a w G) {o:Oper} {K:St->Prop} {Q:Exit->Act->World->Prop} (hs:bY P F.I ops o st K):
 if Region.wanted o (yielded ops a.tmps)=true then o.wp P a w (ir F K) Q else ir F K (a.put o.dst Go.undef) w:=by
 unfold bY at hs;split at hs
 ·rename_i hg;rw [Gq hg,if_pos rfl];exact O5 h hs
 ·rename_i j want hg;split at hs
  ·rename_i g hq;rw [J5 h hg hq];exact b0 h hs
  grind
def tW (l:List Bool):Nat:=(l.filter (! ·)).length
theorem eU: ∀ (l:List Bool) (i:Nat),l[i]? =some false->tW (l.set i true)+1=tW l
 | [],i,h=>by simp at h
 | b::l,0,h=>by grind [tW]
 | b::l,i+1,h=>by have:=eU l i (by simpa using h);cases b<;>simp_all [tW]<;>omega
theorem je: ∀ (l:List Bool),tW l=0->l.all id=true
 | [],_=>rfl
 | true::l,h=>by simp_all [tW]
 | false::l,h=>by simp [tW]at h
theorem Agv {nodes:List Nat} {ss:List Stp} {ids:List Ah} {cs:List (List Prop)} {SL:Nat->St} {Q:Exit->St->Prop} (hcl:Wq ops nodes=true) (afZ:ids.Nodup)
 (hst:Aem P F.I ops ss ids SL nodes=AaF ops cs SL nodes) (hc:Rq cs) (hQ: ∀ n∈nodes,(Ew n ops.size).all id=true->Q .normal (SL n)):
 ∀ (fuel n:Nat) (a:Act) (w:World) (G:AF),n∈nodes->tW (Ew n ops.size)<=fuel->R F (SL n) a w G->
   wpAny P .any ops (fun e a' w'=> ∃ a_ G',Q e a_/\R F a_ a' w' G') fuel (Ew n ops.size).toArray a w:=by
 simp only [Wq,and_eq_true,all_eq_true,or_eq_true,not_eq_true',List.contains_iff_mem]at hcl;have ae1:=pw (r:=afm ops) hst;have ajh: ∀ n i,i∈afm ops n->(Ew n ops.size)[i]? =some false:=by intro n i hi;unfold afm Region.ready at hi;simp only [mem_filter,List.mem_range,and_eq_true,not_eq_true']at hi;obtain⟨h1,h2,_⟩:=hi;simp_all [rt]
 intro fuel;induction fuel with
 | zero=>
   intro n a w G hn hu hR;have hz:=je _ (Nat.le_zero.1 hu);have hr:afm ops n=[]:=by
    rcases hrr:afm ops n with _ | ⟨i,r⟩
    ·rfl
    ·have:=ajh n i (by rw [hrr];simp);rw [all_eq_true]at hz;have:=hz false (mem_of_getElem? this);simp at this
   exact⟨hr,_,G,hQ n hn hz,hR⟩
 | succ fuel ih=>
   intro n a w G hn hu hR;refine⟨fun hr=>?_,fun i hi=>?_⟩
   ·grind [afm]
   ·have hi':i∈afm ops n:=hi;have acZ:=ae1 n hn i hi';unfold jd at acZ;split at acZ
    ·rename_i o s ho hs;split at acZ
     ·rename_i c a_ hss;simp only [Option.some.injEq,injEq]at acZ;obtain⟨hcc,aoD⟩:=acZ;have hwp:=Ro (K:=fun s'=>B8 s' (SL (n||| 2 ^ i))) hss (hcc▸S0 hc i) (aoD▸cr ids afZ a_);have hw:=O9 (Q:=fun e a' w'=> ∃ a_ G',Q e a_/\R F a_ a' w' G') hR hwp;have agf: ∀ a' w',ir F (fun s'=>B8 s' (SL (n||| 2 ^ i))) a' w'->wpAny P .any ops (fun e a' w'=> ∃ a_ G',Q e a_/\R F a_ a' w' G') fuel ((Ew n ops.size).toArray.setIfInBounds i true) a' w':=by
       intro a' w' ⟨s',G',hl,hR'⟩;rw [cq];refine ih (n||| 2 ^ i) a' w' G' (by grind) ?_ (hR'.less hl);have hb:=ajh n i hi';have e:Ew (n||| 2 ^ i) ops.size=(Ew n ops.size).set i true:=by have:=congrArg Array.toList (cq n ops.size i);grind
       grind [eU]
      unfold wpOp;rw [ho];simp only;by_cases hwt:Region.wanted o (yielded ops a.tmps)=true
      ·rw [if_pos hwt]at hw ⊢;grind [Oper.wp_mono]
      grind
     grind
    grind
theorem Ad.asu {rid:Nat} {l:List Oper} {Q:Exit->St->Prop} (nodes:List Nat) (full:Nat) (ss:List Stp) (ids:List Ah) (SL:Nat->St) (cs:List (List Prop)) (h1:P.follows .mixedOrders =true) (hcl:Wq l.toArray nodes=true) (atN:(nodes.all fun n=> !(Ew n l.length).all id||Nat.beq n full)=true) (afZ:ids.Nodup)
 (h0:B8 st (SL 0)) (hst:Aem P F.I l.toArray ss ids SL nodes=AaF l.toArray cs SL nodes) (hc:Rq cs) (hQ:Q .normal (SL full)):Ad P F (.region rid l.toArray true) st Q:=by
 intro a w G hR;refine wp_region_any h1 ?_;have hR':=(hR.less h0).same (w':={w with drawn:=w.drawn+1}) ⟨rfl,rfl,rfl⟩ ⟨le_refl _,fun _ _=>rfl⟩;have h0':Ew 0 l.toArray.size=List.replicate l.toArray.size false:=by apply List.ext_getElem<;>simp [Ew]
 have key:=Agv (P:=P) (ops:=l.toArray) (Q:=Q) hcl afZ hst hc (fun n hn ae1=>by
  have:=all_eq_true.1 atN n hn;simp_all) l.toArray.size 0 a _ G (by
   simp_all [Wq]) (by
   rw [h0'];simp [tW]) hR'
 grind
end
end Go.PL
namespace Go.PL
open Go Go.RowKit
section
variable {P:Program} {I:World->Prop} {ops:Array Oper} {st a_:St} {K:St->Prop}
theorem ct: ∀ {l:List Oper} {n:Nat} {ss:List Stp} {st a_:St} {cs:List Prop},Jk P I false ops (l.take n) ss st=some (cs,a_)->AX cs->DY P I ops (l.drop n) a_ K->DY P I ops l st K
 | l,0,ss,st,a_,cs,h,hc,hK=>by
   cases ss with
   | nil=>
     simp only [List.take_zero,Jk,Option.some.injEq,injEq]at h;grind
   | cons=>simp [Jk]at h
 | [],n+1,ss,st,a_,cs,h,hc,hK=>by
   cases ss with
   | nil=>
     simp only [List.take_nil,Jk,Option.some.injEq,injEq]at h;grind
   | cons=>simp [Jk]at h
 | o::l,n+1,[],st,a_,cs,h,hc,hK=>by simp [Jk]at h
 | o::l,n+1,s::ss,st,a_,cs,h,hc,hK=>by
   simp only [List.take_succ_cons,Jk]at h;split at h
   ·rename_i l1 st1 h1;split at h
    ·rename_i l2 st2 h2;simp only [Option.some.injEq,injEq]at h;obtain⟨rfl,rfl⟩:=h;obtain⟨q1,q2⟩:=Ak.1 hc;exact Ro (K:=fun s=>DY P I ops l s K) h1 q1 (ct h2 q2 (by simpa using hK))
    ·cases h
   ·cases h
theorem Run.part {l:List Oper} (n:Nat) {ss:List Stp} {cs:List Prop} (a_:St) (h:Jk P I false ops (l.take n) ss st=some (cs,a_)) (hc:AX cs) (hK:DY P I ops (l.drop n) a_ K):DY P I ops l st K:=ct h hc hK
theorem Run.whole {l:List Oper} {ss:List Stp} {cs:List Prop} (a_:St) (h:Jk P I false ops l ss st=some (cs,a_)) (hc:AX cs) (hK:K a_):DY P I ops l st K:=eP h hc hK
theorem Run.inl {l rest:List Oper} {o:Oper} (hl:l=o::rest) (hg:o.guard=none) (h:DL P I o st (fun a_=>DY P I ops rest a_ K)):DY P I ops l st K:=by subst hl;simp only [DY,bY,hg];exact .inl h
end
end Go.PL
namespace Go.PL
open Go Go.RowKit
def S1 (l:List Int):List UInt8:=l.map fun n=>UInt8.ofNat n.toNat
end Go.PL
namespace Go.PL
open Go Go.RowKit
theorem Xd {α:Type} (e:α->List C) {N:Nat} (hN: ∀ y,(e y).length =N): ∀ (l:List α) (k:Nat) (x:α),l[k]? =some x->l.flatMap e=(l.take k).flatMap e++(e x++(l.drop (k+1)).flatMap e)/\((l.take k).flatMap e).length =k*N
 | [],k,x,h=>by simp at h
 | a::l,0,x,h=>by grind
 | a::l,k+1,x,h=>by
   obtain⟨h1,h2⟩:=Xd e hN l k x (by simpa using h);constructor
   ·rw [flatMap_cons,h1];simp [append_assoc]
   ·simp [h2,hN,Nat.add_mul];omega
theorem cw {α:Type} (e:α->List C): ∀ (l:List α) (k:Nat) (x':α),k<l.length->(l.set k x').flatMap e=(l.take k).flatMap e++(e x'++(l.drop (k+1)).flatMap e)
 | [],k,x,h=>by simp at h
 | a::l,0,x,h=>by simp
 | a::l,k+1,x,h=>by rw [List.set_cons_succ,flatMap_cons,cw e l k x (by simpa using h)];simp [append_assoc]
theorem AbL {α:Type} [Inhabited α] {l:List α} {i:Int} {x x':α} {e:α->List C} {N o off:Nat} {cs pre post:List C} (hx:idx l i=some x) (hN: ∀ y,(e y).length =N) (ace:off=pre.length+(i.toNat*N+o)) (ho:o+cs.length<=N)
 (hx':(e x).take o++(cs++(e x).drop (o+cs.length))=e x'):off+cs.length<=(pre++(l.flatMap e++post)).length /\
  (pre++(l.flatMap e++post)).take off++cs++(pre++(l.flatMap e++post)).drop (off+cs.length)=pre++((l.set i.toNat x').flatMap e++post):=by
 have hb:=L7 hx;have hlt:i.toNat<l.length:=by omega
 have hk:l[i.toNat]? =some x:=by rw [jb hx,List.getElem?_eq_getElem hlt,List.getD_eq_getElem?_getD,List.getElem?_eq_getElem hlt];rfl
 obtain⟨h1,h2⟩:=Xd e hN l i.toNat x hk;have h3:=cw e l i.toNat x' hlt;have hex:=hN x;rw [h1,h3, <-hx'];subst ace;generalize (l.take i.toNat).flatMap e=A at *;generalize (l.drop (i.toNat+1)).flatMap e=B at *;generalize e x=X at *;constructor
 ·grind
 ·have e1:pre++(A++(X++B)++post)=(pre++(A++X.take o))++((X.drop o).take cs.length++(X.drop (o+cs.length)++(B++post))):=by grind [drop_drop,take_append_drop]
  have l1:(pre++(A++X.take o)).length =pre.length+(i.toNat*N+o):=by grind
  have l2:((X.drop o).take cs.length).length =cs.length:=by grind
  generalize (X.drop o).take cs.length=M at *;generalize X.drop (o+cs.length)=Z at *;rw [e1, <-l1,List.take_left, <-drop_drop,drop_left, <-l2,drop_left];grind
theorem tX {α:Type} [Inhabited α] {l l':List α} {i:Int} {x x':α} {e:α->List C} {N o off base:Nat} {c0 c1 cs pre post:List C} (hc0:c0=pre++(l.flatMap e++post)) (hb:pre.length=base) (hc1:c1=pre++(l'.flatMap e++post)) (hl:l'=l.set i.toNat x') (hx:idx l i=some x) (hN: ∀ y,(e y).length =N)
 (ace:off=base+(i.toNat*N+o)) (ho:o+cs.length<=N) (hx':(e x).take o++(cs++(e x).drop (o+cs.length))=e x'):off+cs.length<=c0.length/\c0.take off++cs++c0.drop (off+cs.length)=c1:=by
 subst hc0 hc1 hl hb;exact AbL hx hN ace ho hx'
end Go.PL
namespace Go.PL
open Go Go.RowKit
def w_:Nat->Nat->List (Nat×V)->List V
 | 0,_,_=>[]
 | n+1,i,[]=> .undef ::w_ n (i+1) []
 | n+1,i,(j,v)::l=>match Nat.beq i j with
   | true=>v::w_ n (i+1) l
   | false=> .undef ::w_ n (i+1) ((j,v)::l)
def V.alf:V->Bool
 | .undef =>false
 | _=>true
def AaG (st a_:St):St:=⟨UW (a_.tm.map V.alf) st.tm,st.so.filter (fun e=>a_.so.any fun e'=>e'.id==e.id),UW (a_.gh.map V.alf) st.gh,st.pre⟩
def AbM (st a_:St):Bool:=Nat.beq a_.tm.length st.tm.length&&Nat.beq a_.gh.length st.gh.length
theorem ru {st a_:St} (hl:AbM st a_=true):B8 st (AaG st a_):=by simp only [AbM,and_eq_true]at hl;have a:=(pv (m:=a_.tm.map V.alf) (l:=st.tm) (by simp_all) rfl).get;have b:=(pv (m:=a_.gh.map V.alf) (l:=st.gh) (by simp_all) rfl).get;exact⟨a.1,a.2,fun _ he=>(mem_filter.1 he).1,fun hn=>List.Sublist.nodup (List.Sublist.map (fun d:Au=>d.id) filter_sublist) hn,b,rfl⟩
def Xe (st a_:St):Option St:=match AbM st a_ with
 | true=>some (AaG st a_)
 | false=>none
theorem B8.t {st a_:St} (h:Xe st a_=some a_):B8 st a_:=by grind [Xe,ru]
def jf (o:Option (List Prop×St)) (a_:St):Option (List Prop×St):=
 match o with
 | some (cs,st)=>match Xe st a_ with
   | some s=>some (cs,s)
   | none=>none
 | none=>none
theorem mU {o:Option (List Prop×St)} {a_:St} {cs:List Prop} (h:jf o a_=some (cs,a_)): ∃ st,o=some (cs,st)/\B8 st a_:=by
 unfold jf at h;split at h
 ·rename_i cs' st;split at h
  ·rename_i s hs;simp only [Option.some.injEq,injEq]at h;obtain⟨rfl,rfl⟩:=h;exact⟨st,rfl,B8.t hs⟩
  ·cases h
 ·cases h
section
variable {P:Program} {F:Fr} {st:St}
theorem Ad.rg {id:Nat} {l:List Oper} {c:Code} {Q:Exit->St->Prop} {ss:List Stp} {cs:List Prop} (a_:St) (hr:jf (Jk P F.I false l.toArray l ss st) a_=some (cs,a_)) (hl:AX cs) (h:Ad P F c a_ Q):Ad P F (.seq (.region id l.toArray false) c) st Q:=by obtain⟨st1,h1,h2⟩:=mU hr;exact Ad.seq (Ad.reg h1 hl (Ad.less h2 h))
end
abbrev vI (n:Int):V:= .c (.int .i64 n)
abbrev vB (b:Bool):V:= .c (.bool b)
abbrev vS (s:List UInt8):V:= .c (.str s)
abbrev vP (i:Ah) (o:Nat):V:= .c (.ptr i o)
abbrev vO (i:Ah):V:= .c (.j_ i)
abbrev vL {α:Type} (e:α->List C) (l:List α):V:= .c (.sl l.length (l.flatMap e))
abbrev vX {α:Type} (e:α->List C) (l:List α) (o:Nat):V:= .c (.aby (l.flatMap e) o)
abbrev vA {α:Type} (e:α->List C) (x:α):V:= .agg (e x)
abbrev bx (i:Ah) (cs:List C):Au:=⟨i,none,cs,false⟩
abbrev Jd {α:Type} (i:Ah) (E N:Nat) (e:α->List C) (l:List α):Au:=⟨i,some (E,N,l.length),l.flatMap e,true⟩
end Go.PL
namespace Go.PL
theorem gT {p:Bool} (h:p=true):(p==true)=true:=by subst h;rfl
theorem gF {p:Bool} (h:p=false):(p==false)=true:=by subst h;rfl
theorem gA {p q:Bool} (h:p=true) (k:q=true):(p&&q)=true:=by grind
end Go.PL
namespace Go.PL
open Go Go.RowKit
def St.setCell (st:St) (i:Ah) (j:Nat) (c:C):St:={st with so:=st.so.map fun e=>if e.id==i&& !e.pu then⟨e.id,e.row,e.cs.set j c,false⟩else e}
def St.aji (st:St) (i:Ah) (j:Nat):Bool:=
 match st.look i with
 | some e=> !e.pu&&(match e.cs[j]? with
   | some .L_ =>true
   | _=>false)
 | none=>false
theorem Qj {w:World} {G:AF}: ∀ {cs:List C} {b o j:Nat} {c:C},Al w G cs b o->(∀ v d,cs[j]? =some d->Ae w G d v->Ae w G c v)->Al w G (cs.set j c) b o
 | [],_,_,_,_,h,_=>by grind
 | d::cs,b,o,0,c,h,hc=>by grind [Al]
 | d::cs,b,o,j+1,c,h,hc=>by simp only [Al]at h;simp only [List.set_cons_succ,Al];exact⟨h.1,Qj h.2 (fun v d hd=>hc v d (by simpa using hd))⟩
theorem R.setCell {F:Fr} {st:St} {a:Act} {w:World} {G:AF} (h:R F st a w G) {i k:Ah} {j:Nat} (hn:st.aji i j=true) (hk:G.own k=some (.slice none 0 0)):R F (st.setCell i j (.j_ k)) a w G:={
 dfr:=h.dfr,size:=h.size,w_:=h.w_,I_:=h.I_
 store:=by
  intro e' he';simp only [St.setCell,mem_map]at he';obtain⟨e,he,rfl⟩:=he';split
  ·rename_i hc;simp only [and_eq_true,beq_iff_eq,not_eq_true']at hc;have hE:=h.store e he;have hee: ∃ x,st.look i=some x/\x=e:=by
    unfold St.aji at hn;cases hl:st.look i with
    | none=>grind
    | some x=>
      refine⟨x,rfl,?_⟩;obtain⟨hm,hid⟩:=Bi hl;have hp:=List.pairwise_map.1 h.nodup;rcases mem_iff_getElem.1 hm with ⟨p,hp1,rfl⟩;rcases mem_iff_getElem.1 he with ⟨q,hq1,rfl⟩;grind [List.pairwise_iff_getElem]
   obtain⟨x,hx,rfl⟩:=hee;have am5:x.cs[j]? =some .L_ :=by unfold St.aji at hn;grind
   have hc': ∀ v d,x.cs[j]? =some d->Ae w G d v->Ae w G (.j_ k) v:=by intro v d hd hr;rw [am5]at hd;injection hd with hd;subst hd;simp only [Ae]at hr ⊢;subst hr;exact⟨hk,rfl⟩
   unfold Ba at hE ⊢;simp only;split at hE
   ·rename_i hrn;obtain⟨b,h1,hbx⟩:=hE;obtain⟨T,cur,h2,h3,h4⟩:=hbx.cells (Wi hx hrn);exact⟨b,h1, .inr ⟨T,cur,h2,by simpa using h3,Qj h4 hc'⟩⟩
   ·obtain⟨hl,v,h1,h2⟩:=hE;refine⟨by grind,v,h1,?_⟩;rcases h2 with h2 | ⟨b,cap,cur,e1,e2,e3,e4,e5,e6,e7⟩
    ·grind
    ·exact .inr ⟨b,cap,cur,e1,e2,e3,e4,e5,e6,Qj e7 hc'⟩
  ·exact h.store e he
 deep:=by
  intro e' he';simp only [St.setCell,mem_map]at he';obtain⟨e,he,rfl⟩:=he';split
  ·rename_i hc;simp only [and_eq_true,beq_iff_eq,not_eq_true']at hc;exact⟨(h.deep e he).1,fun hq=>absurd ((h.deep e he).2 hq).1 (by simp [hc.2])⟩
  ·exact h.deep e he
 y_:=by
  intro e' he';simp only [St.setCell,mem_map]at he';obtain⟨e,he,rfl⟩:=he';split
  ·grind
  ·exact h.y_ e he
 nodup:=by
  have:((st.setCell i j (.j_ k)).so.map (·.id))=st.so.map (·.id):=by simp only [St.setCell,map_map];apply List.map_congr_left;grind
  rw [this];exact h.nodup
 inj:=h.inj,lt:=h.lt,new:=h.new,wr:=h.wr,aaJ:=h.aaJ,inv:=h.inv,aae:=h.aae,os:=h.os,tape:=h.tape,output:=h.output,v_:=h.v_,ext:=h.ext}
end Go.PL
namespace Go.PL
open Go Go.RowKit
theorem aC {p:Prop} {l:List Prop} (h:p) (k:AX l):AX (p::l):=⟨h,k⟩
theorem aN:AX []:=trivial
abbrev sl (n:Nat) (l:List (Nat×V)) (so:List Au):St:=⟨w_ n 0 l,so,[],[]⟩
abbrev sg (n:Nat) (l:List (Nat×V)) (so:List Au) (m:Nat) (g:List (Nat×V)) (p:Ah):St:=⟨w_ n 0 l,so,w_ m 0 g,p⟩
def LE:List Ah->Bool
 | []=>true
 | i::l=> !(l.contains i)&&LE l
theorem Gu: ∀ {l:List Ah},LE l=true->l.Nodup
 | [],_=>by simp
 | i::l,h=>by simp only [LE,and_eq_true,not_eq_true']at h;refine nodup_cons.2 ⟨fun hm=>?_,Gu h.2⟩;have:=List.contains_iff_mem.2 hm;rw [h.1]at this;cases this
section
variable {P:Program} {F:Fr} {st:St} {id:Nat} {l:List Oper} {c:Code} {Q:Exit->St->Prop} {cs:List Prop} {K:St->Prop}
theorem Rg (ss:List Stp) (a_:St) (hl:AX cs) (h:Ad P F c a_ Q) (hr:jf (Jk P F.I false l.toArray l ss st) a_=some (cs,a_):=by kernel_rfl):Ad P F (.seq (.region id l.toArray false) c) st Q:=Ad.rg a_ hr hl h
theorem Rp {I:World->Prop} {ops:Array Oper} (n:Nat) (ss:List Stp) (a_:St) (hc:AX cs) (hK:DY P I ops (l.drop n) a_ K) (h:Jk P I false ops (l.take n) ss st=some (cs,a_):=by kernel_rfl):DY P I ops l st K:=Run.part n a_ h hc hK
theorem Rw {I:World->Prop} {ops:Array Oper} (ss:List Stp) (a_:St) (hc:AX cs) (hK:K a_) (h:Jk P I false ops l ss st=some (cs,a_):=by kernel_rfl):DY P I ops l st K:=Run.whole a_ h hc hK
theorem Ls (a_:St) (h:Ad P F c a_ Q) (hl:Xe st a_=some a_:=by kernel_rfl):Ad P F c st Q:=Ad.less (B8.t hl) h
theorem At (a_:St) (hh:Ad P F c a_ Q) (h:st=a_:=by kernel_rfl):Ad P F c st Q:=h▸hh
theorem bE {rs:List ResultVar} {e:Exit} {r':V} (v r:V) (hr:r=r') (he:e= .normal \/e= .ret :=by first | exact .inr rfl | exact .inl rfl) (h:tT P st rs=some v:=by kernel_rfl) (hs:tU st rs v=r:=by kernel_rfl) (hp:r.pure=true:=by kernel_rfl):
 (e= .normal \/e= .ret)/\(DH P st rs).1/\(DH P st rs).2.pure =true/\(DH P st rs).2=r':=pt he h hs hp hr
theorem bQ {rs:List ResultVar} {e:Exit} {r':V} (v:V) (hr:v=r') (he:e= .normal \/e= .ret :=by first | exact .inr rfl | exact .inl rfl) (h:tT P st rs=some v:=by kernel_rfl) (hs:tU st rs v=v:=by kernel_rfl) (hp:v.pure=true:=by kernel_rfl):
 (e= .normal \/e= .ret)/\(DH P st rs).1/\(DH P st rs).2.pure =true/\(DH P st rs).2=r':=pt he h hs hp hr
end
theorem Tn {K:St->Prop} {Q:Exit->St->Prop} {st:St} (h:K st):Cx K Q .normal st:=h
theorem Tr {K:St->Prop} {Q:Exit->St->Prop} {st:St} (h:Q .ret st):Cx K Q .ret st:=h
theorem gi (g:Bool):g=true->g=true:=id
theorem g0 (g:Bool):g=true->AX []:=fun _=>trivial
theorem g1 (g:Bool):g=true->AX [g=true->g=true]:=fun _=>⟨id,trivial⟩
theorem g2 (g:Bool):g=true->AX [g=true->g=true,g=true->g=true]:=fun _=>⟨id,id,trivial⟩
section
variable {l:List Prop}
theorem aB {e b:Bool} (h:some e=some b) (k:AX l):AX ((vB e=vB b)::l):=⟨congrArg vB (sI h),k⟩
theorem aF (b:Bool) (k:AX l):AX ((b=false->(b==false)=true)::l):=⟨fun q=>gF q,k⟩
theorem aG (g:Bool) (k:AX l):AX ((g=true->AX [g=true->g=true])::l):=⟨g1 g,k⟩
theorem aH (g:Bool) (k:AX l):AX ((g=true->AX [g=true->g=true,g=true->g=true])::l):=⟨g2 g,k⟩
end
section
variable {α:Type} [Inhabited α] {g:Bool} {o:Option α} {x:α} {p:Prop}
theorem c0 (h:gd g o=some x) (k:o=some x->p):g=true->AX []/\p:=fun hg=>⟨trivial,k (mT h hg)⟩
theorem c1 (h:gd g o=some x) (k:o=some x->p):g=true->AX [g=true->g=true]/\p:=fun hg=>⟨⟨id,trivial⟩,k (mT h hg)⟩
theorem c2 (h:gd g o=some x) (k:o=some x->p):g=true->AX [g=true->g=true,g=true->g=true]/\p:=fun hg=>⟨⟨id,id,trivial⟩,k (mT h hg)⟩
theorem c3 (h:gd g o=some x) (k:o=some x->p):g=true->AX [g=true->g=true,g=true->g=true,g=true->g=true]/\p:=fun hg=>⟨⟨id,id,id,trivial⟩,k (mT h hg)⟩
end
theorem tY (k:IntKind): ∀ x,(eI k x).length =1:=fun _=>rfl
theorem Agw: ∀ x,(eS x).length =1:=fun _=>rfl
section
variable {α:Type} [Inhabited α] {l m r:List α} {i:Int} {x:α} {e:α->List C} {N:Nat}
theorem eld (hx:idx l i=some x) (hN: ∀ y,(e y).length =N) (o n:Nat) (ag:Bool) (v:V) (hv:toV ag o n (e x)=v:=by kernel_rfl) (ho:Nat.ble (o+n) N=true:=by kernel_rfl) (h0:(ag||Nat.blt 0 n)=true:=by kernel_rfl):
 i.toNat*N+o+n<=(l.flatMap e).length /\toV ag (i.toNat*N+o) n (l.flatMap e)=v:=
 eR hx hN rfl (by simp_all) (by simp_all) hv
theorem ald (hx:idx l i=some x) (hN: ∀ y,(e y).length =N) (cs:List C) (b m o n:Nat) (ag:Bool) (v:V) (hc:cs=cs.take b++(l.flatMap e++cs.drop m):=by kernel_rfl) (hb:(cs.take b).length =b:=by kernel_rfl) (hv:toV ag o n (e x)=v:=by kernel_rfl) (ho:Nat.ble (o+n) N=true:=by kernel_rfl) (h0:(ag||Nat.blt 0 n)=true:=by kernel_rfl):
 b+i.toNat*N+o+n<=cs.length/\toV ag (b+i.toNat*N+o) n cs=v:=
 eT hc hb hx hN (add_assoc _ _ _) (Nat.le_of_ble_eq_true ho) (by simpa using h0) hv
omit [Inhabited α] in
theorem rx {b:Nat} (h:app b l m=some r) (e:α->List C):l.length+m.length=r.length/\l.flatMap e++m.flatMap e=r.flatMap e:=(by grind [tR])
end
end Go.PL
