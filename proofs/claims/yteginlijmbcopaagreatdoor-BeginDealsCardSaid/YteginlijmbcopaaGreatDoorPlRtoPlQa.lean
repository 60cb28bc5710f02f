/- The pure logic: PlR, PlU, PlW, PlS, PlT, PlV, PlX, PlXd, PlXe, PlXf, PlY, PlZ, PlPe, PlPf, PlPg, PlPh, PlPi, PlPj, PlPk, PlPm, PlPn, PlPo, PlPp, PlPr, PlPt, PlPv, PlPz, PlPu, PlQa. -/
import Derived.Test.YteginlijmbcopaaGreatDoorPlAtoPlQ
import Derived.LoopN
import Derived.ProofKit
import Derived.OpenShut
import Derived.Handy
import Derived.Lay
import Derived.LaidSub
import Derived.SevenTiedAt
import Derived.Lib.LaidTab
import Derived.Lib.ConvBytes
import Derived.Lib.AtoiErrMem
import Derived.Laws.Cover3
import Derived.Scope
import Derived.Lib.AppendStr
import Derived.Lib.Builder
import Derived.Lib.UnsafeStr
import Derived.MapKept
open Prod.mk (injEq)
open Bool (and_eq_true or_eq_true not_eq_true' or_eq_false_iff)
open List (map_cons mem_map flatMap_cons mem_filter all_eq_true map_map mem_cons take_append_drop getElem?_append_right drop_drop cons_append getD_eq_getElem?_getD mem_iff_getElem getElem?_set append_assoc all_append filter_sublist drop_left all_cons find?_some nodup_cons)
open Nat (eq_of_beq_eq_true le_refl add_comm add_zero)
set_option linter.all false
namespace Go.PL
open Go Go.RowKit
def kA:List V->List V->Prop
 | [],[]=>True
 | a::l,b::m=>(b= .undef \/b=a)/\kA l m
 | _,_=>False
theorem kA.get: ∀ {l m:List V},kA l m->m.length=l.length/\ ∀ i,m.getD i .undef = .undef \/m.getD i .undef =l.getD i .undef
 | [],[],_=>(by grind)
 | a::l,b::m,h=>by
   obtain⟨h1,h2⟩:=h;obtain⟨q1,q2⟩:=kA.get h2;refine⟨by simp [q1],fun i=>?_⟩;cases i with
   | zero=>simpa using h1
   | succ i=>simpa using q2 i
 | [],_::_,h=>h.elim
 | _::_,[],h=>h.elim
theorem Aaj (a b:Nat):(([a]:List Nat)==[b])=(a==b):=by grind
theorem Aak (a b:Nat):(([a]:List Nat) != [b])=(a != b):=by grind
theorem wv (a b c d:Nat):(([a,c]:List Nat)==[b,d])=(a==b&&c==d):=by grind
theorem AdB (a b:Nat):(([a]:List Nat)=[b])=(a=b):=by simp
theorem kB (z:List C):Ca z 0=[]:=by simp [Ca]
theorem U4 (z:List C) (k:Nat):Ca z (k+1)=z++Ca z k:=by
 unfold Ca;have e:(k+1)*z.length=z.length+k*z.length:=by grind
 rw [e,List.range_add,List.map_append];congr 1
 ·apply List.ext_getElem<;>simp;grind [Nat.mod_eq_of_lt]
 simp_all
theorem gC (k:IntKind) (l:List Int):Au (l.map (C.int k))=true:=OO _ (fun _=>rfl) l
theorem gD (l:List (List UInt8)):Au (l.map C.str)=true:=OO _ (fun _=>rfl) l
theorem bN (l:List Bool):Au (l.map C.bool)=true:=OO _ (fun _=>rfl) l
theorem NI {g:C->C} (hg: ∀ c:C,c.pure=true->g c=c): ∀ {l:List C},Au l=true->l.map g=l
 | [],_=>rfl
 | c::l,h=>by simp only [Au,and_eq_true]at h;rw [map_cons,hg c h.1,NI hg h.2]
theorem oO (id:Ah) {c:C} (h:c.pure=true):HJ id c=c:=by simp [HJ,HG id c h]
theorem oP {l:List C} (id:Ah) (h:Au l=true):l.map (HJ id)=l:=NI (fun _ hc=>oO id hc) h
theorem ua {id:Ah} {len:Nat} {cs:List C} {c:C} (h:c.pure=true):Ka id len cs c=c:=by cases c<;>simp_all [Ka,C.pure,AU]
theorem ub {id:Ah} {len:Nat} {cs:List C} {l:List C} (h:Au l=true):l.map (Ka id len cs)=l:=NI (fun _ hc=>ua hc) h
theorem uc {c:C} (h:c.pure=true):Re c=[]:=by cases c<;>simp_all [Re,C.pure]
theorem dM: ∀ {l:List C},Au l=true->l.flatMap Re=[]
 | [],_=>rfl
 | c::l,h=>by simp only [Au,and_eq_true]at h;rw [flatMap_cons,uc h.1,dM h.2];rfl
attribute [go_sem] BR gC gD bN oP ub dM AU
attribute [go_sem] Aaj Aak wv AdB kB U4 Nat.reduceLeDiff Nat.reduceLT le_refl Nat.reduceBEq Nat.reduceBNe Nat.reduceMul Nat.reduceAdd Nat.reduceSub
end Go.PL
namespace Go.PL
open Go Go.RowKit
section
variable {P:Program} {F:Fr} {st:St} {c:Code} {Q:Exit->St->Prop}
end
end Go.PL
namespace Go.PL
open Go Go.RowKit
def WY (st:St) (x:Operand):Option (FuncId×List C):=
 match st.ev x with
 | .c (.fn f)=>some (f,[])
 | .c (.clo f cs)=>some (f,cs)
 | _=>none
def St.enter (st:St) (k:Nat) (args:List V) (n:Nat):St:=⟨args++List.replicate (n - args.length) .undef,st.so,st.tm++st.gh,k::st.pre⟩
def St.back (st:St) (m:Nat) (pre:Ah) (d:Option Nat) (r:V):St:=(⟨st.gh.take m,st.so,st.gh.drop m,pre⟩:St).put d r
def Pq (P:Program) (st:St):ResultVar->Prop×V
 | .tmp t=>(True,st.get t)
 | .cell t T=>DJ P T st (st.get t)
def Cy (P:Program) (st:St):List ResultVar->Prop×List V
 | []=>(True,[])
 | x::xs=>((Pq P st x).1/\(Cy P st xs).1,(Pq P st x).2::(Cy P st xs).2)
def Ct (P:Program) (st:St):List ResultVar->Prop×V
 | [x]=>Pq P st x
 | xs=>((Cy P st xs).1, .tup (Cy P st xs).2)
section
variable {P:Program} {F:Fr} {st:St} {a:Act} {w:World} {G:AJ}
theorem XB (h:R F st a w G) {x:ResultVar} (hs:(Pq P st x).1): ∃ v,(Jr a.tmps x).run P w= .ok v w/\Ad w G (Pq P st x).2 v:=by
 cases x with
 | tmp t=>exact⟨_,rfl,h.M_ t⟩
 | cell t T=>
   simp only [Pq]at hs ⊢;obtain⟨v,q1,q2⟩:=NC (P:=P) h (h.M_ t) hs;obtain⟨p,aDk⟩:=dK (h.M_ t) hs;refine⟨v,?_,q1⟩;grind [CY.refl,Jr,asAddr,Instr.loadAt,Instr.sureAddr]
theorem U5 (h:R F st a w G): ∀ {xs:List ResultVar},(Cy P st xs).1-> ∃ vs,(xs.mapM (Jr a.tmps)).run P w= .ok vs w/\Aw w G (Cy P st xs).2 vs
 | [],_=>(by simp_all [Cy,Aw])
 | x::xs,hs=>by simp only [Cy]at hs ⊢;obtain⟨v,q1,q2⟩:=XB h hs.1;obtain⟨vs,k1,k2⟩:=U5 h hs.2;exact⟨v::vs,by simp_all,by simp only [Aw];grind⟩
theorem ud {xs:List ResultVar}:(Cy P st xs).2.length =xs.length:=by induction xs<;>grind [Cy]
theorem Mi (h:R F st a w G) {fn:Func} (hs:(Ct P st fn.results.toList).1): ∃ v,(results fn a.tmps).run P w= .ok v w/\Ad w G (Ct P st fn.results.toList).2 v:=by
 generalize hx:fn.results.toList=xs at hs ⊢
 match xs,hx,hs with
 | [x],hx,hs=>
   simp only [Ct]at hs ⊢;obtain⟨v,q1,q2⟩:=XB h hs;exact⟨v,by have:=FS (P:=P) (w:=w) (fn:=fn) (tmps:=a.tmps) (vs:=[v]) (by rw [hx];simp [q1]);grind,q2⟩
 | [],hx,hs=>
   simp_all [Ct,Cy,Ad,Aw,FS]
 | x::y::xs,hx,hs=>
   simp only [Ct]at hs ⊢;obtain⟨vs,q1,q2⟩:=U5 h hs;refine⟨.tuple vs.toArray,?_,by simp only [Ad];grind⟩;have:=FS (P:=P) (w:=w) (fn:=fn) (tmps:=a.tmps) (by rw [hx];exact q1);rw [this];have hl:=ER q2;rw [ud]at hl
   match vs,hl with
   | v::u::vs,_=>rfl
theorem IA {w:World} {G:AJ}: ∀ {xs ys:List V} {us vs:List Value},Aw w G xs us->Aw w G ys vs->Aw w G (xs++ys) (us++vs)
 | [],_,us,_,h,h'=>by grind [Aw]
 | x::xs,ys,us,vs,h,h'=>by simp only [Aw]at h;obtain⟨v,r,rfl,h1,h2⟩:=h;simp only [cons_append,Aw];exact⟨v,r++vs,rfl,h1,IA h2 h'⟩
theorem U6 {w:World} {G:AJ}: ∀ {xs:List V} {us vs:List Value},Aw w G xs (us++vs)->Aw w G (xs.take us.length) us/\Aw w G (xs.drop us.length) vs
 | xs,[],vs,h=>(by grind [Aw])
 | [],u::us,vs,h=>by simp [Aw]at h
 | x::xs,u::us,vs,h=>by simp only [cons_append,Aw]at h;obtain⟨v,r,e,h1,h2⟩:=h;injection e with e1 e2;subst e1 e2;obtain⟨k1,k2⟩:=U6 h2;simp only [List.length_cons,List.take_succ_cons,List.drop_succ_cons,Aw];grind
theorem NJ {w:World} {G:AJ}: ∀ {xs:List V} {us:List Value},xs.length=us.length->(∀ i,Ad w G (xs.getD i .undef) (us.getD i Go.undef))->Aw w G xs us
 | [],[],_,_=>by simp [Aw]
 | x::xs,u::us,hl,h=>by simp only [Aw];exact⟨u,us,rfl,by simpa using h 0,NJ (by grind) (fun i=>by simpa using h (i+1))⟩
 | [],_::_,hl,_=>by simp at hl
 | _::_,[],hl,_=>by simp at hl
theorem TC {w:World} {G:AJ}: ∀ {cs:List C} {us:List Value},Ai w G cs us->Aw w G (cs.map V.c) us
 | [],[],_=>by simp [Aw]
 | c::cs,u::us,h=>by simp only [Ai]at h;simp only [map_cons,Aw];exact⟨u,us,rfl,by grind [Ad],TC h.2⟩
 | [],_::_,h=>by simp [Ai]at h
 | _::_,[],h=>by simp [Ai]at h
theorem R.enter (h:R F st a w G) (k:Nat) {args:List V} {us:Array Value} (ha:Aw w G args us.toList) (n:Nat):
 R {F with gv:=a.tmps.toList++F.gv} (st.enter k args n) {tmps:=us++Array.replicate (n - us.size) Go.undef,defers:=[]} w G:=by
 have hl:=ER ha;have hl':args.length=us.size:=by grind
 exact {
  dfr:=rfl
  size:=by simp [St.enter,hl']
  M_:=by
   intro i;simp only [St.enter,getD_eq_getElem?_getD,Array.getD_eq_getD_getElem?];by_cases hi:i<args.length
   ·grind [IW]
   grind [Ad]
  Tk:=IA (NJ (by simpa using h.size.symm) (fun i=>by have:=h.M_ i;simp_all)) h.Tk
  store:=h.store,deep:=h.deep,P_:=h.P_,nodup:=h.nodup,inj:=h.inj,lt:=h.lt,new:=h.new,wr:=h.wr,abi:=h.abi,inv:=h.inv,aaI:=h.aaI
  os:=h.os,tape:=h.tape,output:=h.output,L_:=h.L_,ext:=h.ext}
theorem oQ {w:World} {G:AJ} {xs:List V} {us:List Value} (h:Aw w G xs us) (i:Nat):Ad w G (xs.getD i .undef) (us.getD i Go.undef):=by grind [IW,Ad]
theorem R.back {a':Act} {d_:St} (hd:a.defers=[]) {gv:List Value} (hgv:F.gv=a.tmps.toList++gv) (h:R F d_ a' w G) {m:Nat} (hm:m=a.tmps.size) (pre:Ah):R {F with gv:=gv} ⟨d_.gh.take m,d_.so,d_.gh.drop m,pre⟩ a w G:=by
 have hg:=h.Tk;rw [hgv]at hg;obtain⟨h1,h2⟩:=U6 hg;have e:a.tmps.toList.length=m:=by simp [hm]
 rw [e]at h1 h2;exact {
  dfr:=hd
  size:=by grind [ER]
  M_:=fun i=>by have:=oQ h1 i;simp_all
  Tk:=h2
  store:=h.store,deep:=h.deep,P_:=h.P_,nodup:=h.nodup,inj:=h.inj,lt:=h.lt,new:=h.new,wr:=h.wr,abi:=h.abi,inv:=h.inv,aaI:=h.aaI
  os:=h.os,tape:=h.tape,output:=h.output,L_:=h.L_,ext:=h.ext}
end
def inQ (P:Program) (rs:List ResultVar) (m:Nat) (pre:Ah) (d:Option Nat) (K:St->Prop):Exit->St->Prop
 | .normal,st=>(Ct P st rs).1/\K (st.back m pre d (Ct P st rs).2)
 | .ret,st=>(Ct P st rs).1/\K (st.back m pre d (Ct P st rs).2)
 | _,_=>False
theorem E4.inline {P:Program} {I:World->Prop} {o:Oper} {st:St} {K:St->Prop} {x:Operand} {xs:List Operand} {c:Call} {s:Prop} {vs:List V} {f:FuncId} {cs:List C} {fn:Func} {body:Code} {n:Nat} {rs:List ResultVar} (k:Nat)
 (ho:o.op= .call c) (ae5:c.callee= .value x) (hxs:c.args.toList=xs) (ha:st.args true xs=(s,vs)) (hs:s) (hf:WY st x=some (f,cs)) (abR:ent P f=true) (hfn:P.funcs[f]? =some fn) (hb:fn.body=some body) (hn:fn.ntmps=n) (hr:fn.results=rs.toArray)
 (h: ∀ w0 av old gv,Aq P ⟨w0,av,old,I,gv⟩ body (st.enter k (vs++cs.map V.c) n) (inQ P rs st.tm.length st.pre o.dst K)):E4 P I o st K:=by
 intro F a w G Q hI hR;have acY:Aw w G vs (xs.map a.eval):=by have:=hR.args (g:=true) rfl (xs:=xs) (by grind);grind
 obtain⟨arr,hev,hcs⟩: ∃ arr:Array Value,a.eval x= .func (.func f) #[] arr/\Ai w G cs arr.toList:=by
  have hx:=hR.ev x;unfold WY at hf;split at hf
  ·rename_i f' he;rw [he]at hx;simp only [Option.some.injEq,injEq]at hf;obtain⟨rfl,rfl⟩:=hf;grind [Ad,Af,Ai]
  ·rename_i f' cs' he;rw [he]at hx;simp only [Option.some.injEq,injEq]at hf;obtain⟨rfl,rfl⟩:=hf;grind [Ad,Af]
  ·cases hf
 have J_:(execOp a.eval o).run P w= .ok (.enter f ((xs.map a.eval).toArray ++arr)) w:=by
  have e:c.args.map a.eval=(xs.map a.eval).toArray :=by grind
  grind [execOp,resolve,Deferred.ofValue,invoke,acL]
 unfold Oper.wp Oper.upon;rw [J_];simp only;obtain⟨w0,av,old,I',gv⟩:=F;simp only at hI;subst hI;have aiN:Aw w G (vs++cs.map V.c) ((xs.map a.eval).toArray ++arr).toList :=by grind [IA,TC]
 refine calls_of_wp hfn hb ?_;have hR0:=hR.enter k aiN fn.ntmps;rw [hn]at hR0;rw [hn];refine Code.wp_mono (fun e a' w' ⟨d_,G',q,hR'⟩=>?_) (h _ _ _ _ _ _ _ hR0);have hrs:fn.results.toList=rs:=by rw [hr]
 have fin:(Ct P d_ rs).1/\K (d_.back st.tm.length st.pre o.dst (Ct P d_ rs).2)->
  a'.defers=[]/\ ∃ v,(results fn a'.tmps).run P w'= .ok v w'/\ot ⟨w0,av,old,I',gv⟩ K (a.put o.dst v) w':=by
  intro ⟨q1,q2⟩;rw [<-hrs]at q1 q2;obtain⟨v,k1,k2⟩:=Mi hR' (fn:=fn) q1;refine⟨hR'.dfr,v,k1,_,G',q2,?_⟩;exact(R.back hR.dfr rfl hR' hR.size.symm st.pre).put k2
 cases e<;>simp only [inQ]at q<;>first | exact fin q | exact q.elim
end Go.PL
namespace Go.PL
open Go Go.RowKit Go.ChangeShapes Go.WideShapes
theorem PF {H:Type} {enc:TypeId×Value->H} {P:Program} (hl:laidOutB P=true) {W W':World} (hb:Below W.heap.size W W'):
 ∀ {ts:List TypeId} {vs:List Value} {ds:List (DataW H)} {ps:List MemPlace},(ts.all fun t=>P.readableRec t&&decide (t<P.types.size))=true->DataW.TrodAll enc P W 0 (fun _=>true) true ts vs ds ps->(∀ x∈ps,x.block<W.heap.size)->
   DataW.TrodAll enc P W' 0 (fun b=>decide (b<W.heap.size)) true ts vs ds ps
 | [],_,_,_,_,h,_=>by obtain⟨rfl,rfl,rfl⟩:=trodAll_nil h;exact trodAll_mk0
 | t::ts,_,_,_,hr,h,hlt=>by obtain⟨v,vs1,d,ds1,a,b,rfl,rfl,rfl,h1,h2⟩:=trodAll_cons h;simp only [all_cons,and_eq_true,decide_eq_true_eq]at hr;exact⟨a,b,(by grind [Below.trod]),PF hl hb hr.2 h2 (fun x hx=>hlt x (by simp [hx])),rfl⟩
theorem CZ.law {P:Program} {I:World->Prop} {f:FuncId} {xs:List V} (h:CZ P I f xs (· = .c (.bool true))) {W:World} (hI:I W) {args:Array Value} (ha:Aw W (im fun _=>False) xs args.toList):
 Calls P f args W fun e W'=>e= .returned (.bool true)/\Below W.heap.size W W':=by
 refine(h.run W args (fun _=>False) hI (fun _ h=>h.elim) ha).mono fun e W' ⟨v,r,he,hr,_,hv,hb⟩=>⟨?_,hb⟩;grind [Ad,Af]
end Go.PL
namespace Go.PL
open Go Go.RowKit Go.ChangeShapes Go.WideShapes
def TD (R:TypeId->List C->Prop):List TypeId->List (List C)->Prop
 | [],CO=>CO=[]
 | t::ts,CO=> ∃ ds r,CO=ds::r/\R t ds/\TD R ts r
def A7 (P:Program):Nat->TypeId->List C->Prop
 | 0,_,_=>False
 | n+1,t,cs=>match P.underlying t with
   | some .bool => ∃ b,cs=[.bool b]
   | some (.int k)=> ∃ z,cs=[.int k z]/\(Lit.int k z).wf =true
   | some .string => ∃ s:List UInt8,cs=[.str s]/\s.length<=reachBytes
   | some (.slice e)=> ∃ CO:List (List C),cs=[.sl CO.length CO.flatten]/\CO.length*P.bytesOf e<=reachBytes/\ ∀ ds∈CO,A7 P n e ds
   | some (.struct fs)=> ∃ CO:List (List C),cs=CO.flatten/\TD (A7 P n) (fs.toList.map (·.type)) CO
   | some (.array m e)=> ∃ CO:List (List C),cs=CO.flatten/\CO.length=m/\ ∀ ds∈CO,A7 P n e ds
   | some (.pointer e)=>cs=[.acV]\/ ∃ ds,cs=[.acm ds 0]/\A7 P n e ds
   | some (.interface _)=>cs=[.aaJ]\/cs=[.held]
   | _=>False
theorem Hy: ∀ {CO:List (List C)},(∀ ds∈CO,Au ds=true)->Au CO.flatten=true
 | [],_=>rfl
 | ds::CO,h=>by rw [List.flatten_cons,BR,h ds (by simp),Hy (fun d hd=>h d (by simp [hd]))];rfl
theorem dN {R:TypeId->List C->Prop} (hR: ∀ t ds,R t ds->Au ds=true): ∀ {ts:List TypeId} {CO:List (List C)},TD R ts CO-> ∀ ds∈CO,Au ds=true
 | [],CO,h,ds,hd=>by grind [TD]
 | t::ts,CO,h,ds,hd=>by
   simp only [TD]at h;obtain⟨d,r,rfl,h1,h2⟩:=h;rcases mem_cons.1 hd with rfl | hd
   ·exact hR t _ h1
   ·exact dN hR h2 ds hd
theorem Mj {P:Program}: ∀ {n:Nat} {t:TypeId} {cs:List C},A7 P n t cs->Au cs=true
 | 0,_,_,h=>h.elim
 | n+1,t,cs,h=>by
   unfold A7 at h;split at h
   ·obtain⟨b,rfl⟩:=h;rfl
   ·obtain⟨z,rfl,_⟩:=h;rfl
   ·obtain⟨s,rfl,_⟩:=h;rfl
   ·obtain⟨CO,rfl,_⟩:=h;rfl
   ·obtain⟨CO,rfl,h2⟩:=h;exact Hy (dN (fun t ds h=>Mj h) h2)
   ·obtain⟨CO,rfl,_,h2⟩:=h;exact Hy (fun ds hd=>Mj (h2 ds hd))
   ·rcases h with rfl | ⟨ds,rfl,_⟩<;>rfl
   ·rcases h with rfl | rfl<;>rfl
   grind
section
variable {H:Type} {enc:TypeId×Value->H} {P:Program} {w:World} {spare:Nat->Bool}
theorem XC {G:AJ}: ∀ {a b:List C} {u v:List Value},Ai w G a u->Ai w G b v->Ai w G (a++b) (u++v)
 | [],_,[],_,_,h=>h
 | _::_,_,_::_,_,h,h'=>by simp only [Ai]at h;simp only [cons_append,Ai];exact⟨h.1,XC h.2 h'⟩
 | [],_,_::_,_,h,_=>by simp [Ai]at h
 | _::_,_,[],_,h,_=>by simp [Ai]at h
theorem kC {G:AJ}: ∀ {a:List C} {u:List Value},Ai w G a u->a.length=u.length
 | [],[],_=>rfl
 | _::_,_::_,h=>by simp only [Ai]at h;simp [kC h.2]
 | [],_::_,h=>by simp [Ai]at h
 | _::_,[],h=>by simp [Ai]at h
theorem TF {G:AJ} {b:Nat}: ∀ {cs:List C} {ds:List Value} {o:Nat},Ai w G cs ds->(∀ j,j<ds.length->w.cell? ⟨b,o+j,none⟩=ds[j]?)->Am w G cs b o
 | [],_,_,_,_=>by simp [Am]
 | c::cs,d::ds,o,h,hc=>by simp only [Ai]at h;simp only [Am];refine⟨⟨d,by simpa using hc 0 (by simp),h.1⟩,TF h.2 (fun j hj=>?_)⟩;have:=hc (j+1) (by simp;omega);simpa [Nat.add_assoc,add_comm 1 j] using this
 | _::_,[],_,h,_=>by simp [Ai]at h
theorem XD {G:AJ} {b:Nat}: ∀ {cs cs':List C} {o:Nat},Am w G cs b o->Am w G cs' b (o+cs.length)->Am w G (cs++cs') b o
 | [],_,_,_,h=>by grind
 | c::cs,cs',o,h,h'=>by simp only [Am]at h;simp only [cons_append,Am];exact⟨h.1,XD h.2 (by simpa [Nat.add_assoc,add_comm 1] using h')⟩
theorem kD {a:Addr} {n:Nat} {cs:List Value} (hn:0<n) (h:w.cells? 0 a n=some cs):a=⟨a.block,a.off,none⟩/\a.block<w.heap.size/\cs.length=n/\ ∀ j,j<n->w.cell? ⟨a.block,a.off+j,none⟩=cs[j]? :=by
 obtain⟨_,hl,hc⟩:=World.cells?_some h;have h0:=hc 0 hn;obtain⟨b,o,sp⟩:=a;have hsp:sp=none:=by
  cases sp with
  | none=>rfl
  | some x=>
    have e:cs[0]? =some cs[0]:=by grind
    rw [e]at h0;simp only [Addr.add,if_true]at h0;grind [World.cell?]
 subst hsp;refine⟨rfl,World.cells?_block h hn,hl,fun j hj=>?_⟩;grind [Addr.add]
def Aal (P:Program):Nat->List Field->Bool
 | _,[]=>true
 | o,f::fs=>f.offset==o&&Aal P (o+P.cellsOf f.type) fs
def z7 (P:Program):Nat->TypeId->Bool
 | 0,_=>false
 | n+1,t=>match P.underlying t with
   | some .bool =>P.cellsOf t==1
   | some (.int _)=>P.cellsOf t==1
   | some .string =>P.cellsOf t==1
   | some (.slice e)=>P.cellsOf t==1&&decide (0<P.cellsOf e)&&z7 P n e
   | some (.struct fs)=>Aal P 0 fs.toList&&P.cellsOf t==(fs.toList.map fun f=>P.cellsOf f.type).sum &&fs.toList.all (fun f=>z7 P n f.type)
   | some (.array m e)=>P.cellsOf t==m*P.cellsOf e&&z7 P n e
   | some (.pointer e)=>P.cellsOf t==1&&decide (0<P.cellsOf e)&&z7 P n e
   | some (.interface _)=>P.cellsOf t==1
   | _=>false
variable {G:AJ} (hG: ∀ b,b<w.heap.size-> ¬G.wr b)
def rP (enc:TypeId×Value->H) (P:Program) (w:World) (spare:Nat->Bool) (G:AJ) (n:Nat) (t:TypeId):Prop:=
 ∀ (fuel:Nat) (vs:List Value) (x:DataW H×List MemPlace),DataW.trod enc P w 0 spare true fuel t vs=some x->(x.1.weights P t).all (· <=reachBytes)=true-> ∃ cs,Ai w G cs vs/\A7 P n t cs/\vs.length=P.cellsOf t
theorem U7 {n:Nat}: ∀ {fs:List Field} {o m:Nat} {vs:List Value} {xs:List (DataW H×List MemPlace)},Aal P o fs=true->vs.length=o+(fs.map fun f=>P.cellsOf f.type).sum ->xs.length=fs.length->
 (∀ f∈fs,rP enc P w spare G n f.type)->
 (∀ (i:Nat) (f:Field),fs[i]? =some f->DataW.trod enc P w 0 spare true m f.type ((vs.drop f.offset).take (P.cellsOf f.type))=xs[i]?)->
 (DataW.weightsEach P (fs.map (·.type)) (xs.map (·.1))).all (· <=reachBytes)=true-> ∃ CO:List (List C),Ai w G CO.flatten (vs.drop o)/\TD (A7 P n) (fs.map (·.type)) CO
 | [],o,m,vs,xs,_,hl,_,_,_,_=>by
   refine⟨[],?_,rfl⟩;have:vs.drop o=[]:=by simp_all
   rw [this];simp [Ai]
 | f::fs,o,m,vs,xs,ht,hl,hx,hr,hf,hw=>by
   simp only [Aal,and_eq_true,beq_iff_eq]at ht;obtain⟨h1,h2⟩:=ht;cases xs with
   | nil=>simp at hx
   | cons x xs=>
     simp only [map_cons,List.sum_cons]at hl;simp only [map_cons,DataW.weightsEach,all_append,and_eq_true]at hw;have h0:=hf 0 f rfl;simp only [List.getElem?_cons_zero]at h0;obtain⟨cs,q1,q2,q3⟩:=hr f (by simp) m _ x h0 hw.1;obtain⟨CO,k1,k2⟩:=U7 (o:=o+P.cellsOf f.type) (m:=m) (vs:=vs) (xs:=xs) h2 (by omega) (by grind) (fun g hg=>hr g (by simp [hg]))
      (fun i g hg=>by have:=hf (i+1) g (by simpa using hg);grind) hw.2
     refine⟨cs::CO,?_,cs,CO,rfl,q2,k2⟩;grind [drop_drop,take_append_drop,XC]
theorem XE {n e:Nat} (hr:rP enc P w spare G n e): ∀ (k o m:Nat) (vs:List Value) (xs:List (DataW H×List MemPlace)),vs.length=o+k*P.cellsOf e->xs.length=k->
 (∀ i,i<k->DataW.trod enc P w 0 spare true m e ((vs.drop (o+i*P.cellsOf e)).take (P.cellsOf e))=xs[i]?)->
 (DataW.weightsAll P e (xs.map (·.1))).all (· <=reachBytes)=true-> ∃ CO:List (List C),Ai w G CO.flatten (vs.drop o)/\CO.length=k/\ ∀ ds∈CO,A7 P n e ds
 | 0,o,m,vs,xs,hl,_,_,_=>by refine⟨[],?_,rfl,by simp⟩;grind [Ai]
 | k+1,o,m,vs,xs,hl,hx,hf,hw=>by
   cases xs with
   | nil=>simp at hx
   | cons x xs=>
     simp only [map_cons,DataW.weightsAll,all_append,and_eq_true]at hw;have h0:=hf 0 (by omega);simp only [Nat.zero_mul,add_zero,List.getElem?_cons_zero]at h0;obtain⟨cs,q1,q2,q3⟩:=hr m _ x h0 hw.1;obtain⟨CO,k1,k2,k3⟩:=XE hr k (o+P.cellsOf e) m vs xs (by grind) (by grind)
      (by grind) hw.2
     refine⟨cs::CO,?_,by simp [k2],?_⟩
     ·grind [drop_drop,take_append_drop,XC]
     grind
theorem XF {n e:Nat} (ayX:0<P.cellsOf e) (hr:rP enc P w spare G n e): ∀ (k o m:Nat) (a:Addr) (xs:List (DataW H×List MemPlace)),xs.length=k->
 (∀ i,i<k->(w.cells? 0 (a.add (o+i*P.cellsOf e)) (P.cellsOf e)).bind (DataW.trod enc P w 0 spare true m e)=xs[i]?)->
 (DataW.weightsAll P e (xs.map (·.1))).all (· <=reachBytes)=true->
 ∃ CO:List (List C),CO.length=k/\(∀ ds∈CO,A7 P n e ds)/\(0<k->a.block<w.heap.size/\(o=0->a=⟨a.block,a.off,none⟩)/\Am w G CO.flatten a.block (a.off+o))
 | 0,o,m,a,xs,_,_,_=>(by simp_all)
 | k+1,o,m,a,xs,hx,hf,hw=>by
   cases xs with
   | nil=>simp at hx
   | cons x xs=>
     simp only [map_cons,DataW.weightsAll,all_append,and_eq_true]at hw;have h0:=hf 0 (by omega);simp only [Nat.zero_mul,add_zero,List.getElem?_cons_zero,Option.bind_eq_some_iff]at h0;obtain⟨vs,hvs,htr⟩:=h0;obtain⟨cs,q1,q2,q3⟩:=hr m _ x htr hw.1;obtain⟨c1,c2,c3,c4⟩:=kD ayX hvs;obtain⟨CO,k2,k3,k4⟩:=XF ayX hr k (o+P.cellsOf e) m a xs (by grind)
      (by grind) hw.2
     have ab5:(a.add o).block =a.block:=by grind [Addr.add]
     have acX:(a.add o).off =a.off+o:=by grind [Addr.add]
     refine⟨cs::CO,by simp [k2],?_,fun _=>⟨by grind,fun ho=>?_,?_⟩⟩
     ·grind
     ·subst ho;have e:a.add 0=a:=rfl;grind
     grind [kC,XD,TF,List.length_eq_zero_iff]
theorem XG {c:C} {v:Value} (h:Af w G c v):Ai w G [c] [v]:=by simp_all [Ai]
theorem rQ {len:Nat} {cs:List C} {v:Value} (hp:Au cs=true) (h: ∃ a cap,v= .slice a len cap/\len<=cap/\cap<=maxLen/\(len=0->cs=[])/\
 (len=0\/ ∃ b off,a=some ⟨b,off,none⟩/\ ¬G.wr b/\b<w.heap.size/\Am w G cs b off)):Af w G (.sl len cs) v:=by grind [Af]
theorem ue {cs:List C} {off:Nat} {v:Value} (hp:Au cs=true) (h: ∃ b o,v= .pointer (some ⟨b,o+off,none⟩)/\ ¬G.wr b/\b<w.heap.size/\Am w G cs b o):Af w G (.acm cs off) v:=by grind [Af]
include hG in
theorem LC: ∀ (n:Nat) (t:TypeId),z7 P n t=true->rP enc P w spare G n t
 | 0,t,h=>by simp [z7]at h
 | n+1,t,h=>by
   intro fuel vs x hx hw;unfold z7 at h;unfold A7;split at h
   ·rename_i ht;obtain⟨b,rfl,rfl⟩:=DataW.trod_bool ht hx;exact⟨[.bool b],by simp [Ai,Af],by grind,by grind⟩
   ·rename_i k ht;obtain⟨z,rfl,rfl,hwf⟩:=DataW.trod_int ht hx;exact⟨[.int k z],by simp [Ai,Af],by grind,by grind⟩
   ·rename_i ht;obtain⟨s,rfl,rfl,hs⟩:=DataW.trod_string ht hx;simp only [DataW.weights,all_cons,List.all_nil,Bool.and_true,decide_eq_true_eq]at hw;exact⟨[.str s.data.toList],by simp [Ai,Af],by grind,by grind⟩
   ·rename_i e ht;simp only [and_eq_true,decide_eq_true_eq,beq_iff_eq]at h;rcases DataW.trod_slice ht hx with ⟨rfl,rfl⟩ | ⟨a,len,cap,elems,rest,m,rfl,rfl,rfl,_,hle,avX,hlen,hel,_,_⟩
    ·refine⟨[.sl 0 []],?_,?_,by grind⟩
     ·exact XG (rQ rfl (by grind))
     ·exact⟨[],rfl,by simp,by simp⟩
    ·simp only [DataW.weights,ht,all_cons,all_append,and_eq_true,decide_eq_true_eq,List.length_map]at hw;obtain⟨CO,k2,k3,k4⟩:=XF h.1.2 (LC n e h.2) len 0 m a elems hlen (by grind) hw.2.1;refine⟨[.sl CO.length CO.flatten],?_,?_,by grind⟩
     ·refine XG (rQ (Hy (fun ds hd=>Mj (k3 ds hd))) ⟨some a,cap,by rw [k2],by omega,avX,fun h0=>by rw [List.length_eq_zero_iff.1 h0];rfl,?_⟩);rw [k2];by_cases hk:0<len
      ·obtain⟨q1,q2,q3⟩:=k4 hk;exact .inr ⟨a.block,a.off,by rw [<-q2 rfl],hG _ q1,q1,q3⟩
      ·exact .inl (by omega)
     grind
   ·rename_i fs ht;simp only [and_eq_true,beq_iff_eq,all_eq_true]at h;obtain⟨⟨h1,h2⟩,h3⟩:=h;obtain⟨xs,m,rfl,rfl,hl,hx2,hf⟩:=DataW.trod_struct ht hx;simp only [DataW.weights,ht]at hw;obtain⟨CO,k1,k2⟩:=U7 (fs:=fs.toList) (o:=0) (m:=m) (vs:=vs) (xs:=xs) (enc:=enc) (spare:=spare) (n:=n) h1 (by grind) (by grind) (fun f hf=>LC n f.type (h3 f hf))
     (by grind) hw
    grind
   ·rename_i m e ht;simp only [and_eq_true,beq_iff_eq]at h;obtain⟨xs,q,rfl,rfl,hl,hx2,hf⟩:=DataW.trod_array ht hx;simp only [DataW.weights,ht]at hw;obtain⟨CO,k1,k2,k3⟩:=XE (LC n e h.2) m 0 q vs xs (by grind) hx2 (by grind) hw;grind
   ·rename_i e ht;simp only [and_eq_true,decide_eq_true_eq,beq_iff_eq]at h;rcases DataW.trod_pointer ht hx with ⟨rfl,rfl⟩ | ⟨a,cs',y,m,rfl,rfl,rfl,hc,hy⟩
    ·exact⟨[.acV],by simp [Ai,Af],by grind,by grind⟩
    ·simp only [DataW.weights,ht]at hw;obtain⟨ds,q1,q2,q3⟩:=LC n e h.2 m cs' y hy hw;obtain⟨c1,c2,c3,c4⟩:=kD h.1.2 hc;refine⟨[.acm ds 0],?_,by grind,by grind⟩;exact XG (ue (Mj q2) ⟨a.block,a.off,by grind,hG _ c2,c2,(by grind [TF])⟩)
   ·rename_i ms ht;cases fuel with
    | zero=>simp [DataW.trod]at hx
    | succ fuel=>
      unfold DataW.trod at hx;rw [ht]at hx;split at hx<;>simp_all
      ·exact⟨[.aaJ],by simp [Ai,Af], .inl rfl⟩
      ·exact⟨[.held],by simp [Ai,Af], .inr rfl⟩
   ·cases h
end
end Go.PL
namespace Go.PL
open Go Go.RowKit
section
variable {P:Program} {t e:TypeId} {n:Nat} {cs:List C}
theorem oR (hu:P.underlying t=some .bool) (h:A7 P n t cs): ∃ b,cs=[.bool b]/\True:=by cases n<;>simp_all [A7]
theorem uf {k:IntKind} (hu:P.underlying t=some (.int k)) (h:A7 P n t cs): ∃ z,cs=[.int k z]/\(Lit.int k z).wf =true:=by cases n<;>grind [A7]
theorem uh (hu:P.underlying t=some .string) (h:A7 P n t cs): ∃ s:List UInt8,cs=[.str s]/\s.length<=reachBytes:=by cases n<;>grind [A7]
theorem XH {α:Type} {R:List C->Prop} {enc:α->List C} {ok:α->Prop} (hd: ∀ ds,R ds-> ∃ x,ds=enc x/\ok x): ∀ {CO:List (List C)},(∀ ds∈CO,R ds)-> ∃ l:List α,CO=l.map enc/\ ∀ y∈l,ok y
 | [],_=>(by simp_all)
 | ds::CO,h=>by obtain⟨x,h1,h2⟩:=hd ds (h ds (by simp));obtain⟨l,h3,h4⟩:=XH hd (fun d hd'=>h d (by simp [hd']): ∀ d∈CO,R d);refine⟨x::l,by grind,fun y hy=>?_⟩;grind
theorem ww {α:Type} {enc:α->List C} {ok:α->Prop} {b:Nat} (hu:P.underlying t=some (.slice e)) (hb:P.bytesOf e=b) (hd: ∀ n ds,A7 P n e ds-> ∃ x,ds=enc x/\ok x) (h:A7 P n t cs):
 ∃ l:List α,cs=[.sl l.length (l.flatMap enc)]/\l.length*b<=reachBytes/\ ∀ y∈l,ok y:=by
 cases n with
 | zero=>exact h.elim
 | succ n=>
   simp only [A7,hu]at h;obtain⟨CO,h1,h2,h3⟩:=h;obtain⟨l,rfl,h5⟩:=XH (hd n) h3;grind
theorem kE {α:Type} (f:α->C): ∀ l:List α,l.flatMap (fun x=>[f x])=l.map f
 | []=>rfl
 | a::l=>by rw [flatMap_cons,kE f l];rfl
theorem AM {fs:Array Field} {ts:List TypeId} (hu:P.underlying t=some (.struct fs)) (hts:fs.toList.map (·.type)=ts) (h:A7 P n t cs): ∃ (m:Nat) (CO:List (List C)),cs=CO.flatten/\TD (A7 P m) ts CO:=by cases n<;>grind [A7]
theorem dO {α:Type} {enc:α->List C} {n:Nat} (hn: ∀ x,(enc x).length =n) (l:List α) {i:Nat} (d:α) (hi:i<l.length) (j m:Nat) (hj:j+m<=n):
 ((l.flatMap enc).drop (i*n+j)).take m=((enc (l.getD i d)).drop j).take m:=by
 induction l generalizing i with
 | nil=>simp at hi
 | cons a l ih=>
   cases i with
   | zero=>
     grind
   | succ i=>
     have:=ih (i:=i) (by simpa using hi);rw [List.getD_cons_succ, <-this,flatMap_cons];have e:(i+1)*n+j=(enc a).length +(i*n+j):=by grind
     simp_all [List.drop_append,List.drop_of_length_le]
theorem wx {α:Type} {enc:α->List C} {n:Nat} (hn: ∀ x,(enc x).length =n) (l:List α) {i:Nat} (d:α) (hi:i<l.length) (j:Nat) (hj:j<n):
 (l.flatMap enc).getD (i*n+j) C.any=(enc (l.getD i d)).getD j C.any:=by
 have h:=dO hn l d hi j 1 (by omega);have e: ∀ (m:List C) (k:Nat),m.getD k C.any=((m.drop k).take 1).getD 0 C.any:=by grind
 grind
theorem Dp {α:Type} {enc:α->List C} {n:Nat} (hn: ∀ x,(enc x).length =n): ∀ l:List α,(l.flatMap enc).length =l.length*n
 | []=>by simp
 | a::l=>by rw [flatMap_cons,List.length_append,hn,Dp hn l,List.length_cons,Nat.add_mul];omega
end
end Go.PL
namespace Go.PL
open Go Go.RowKit
def Bd:List Prop->Prop
 | []=>True
 | p::ps=>p/\Bd ps
theorem Aj: ∀ {a b:List Prop},Bd (a++b)↔Bd a/\Bd b
 | [],b=>by simp [Bd]
 | p::a,b=>by simp_all [Bd,Aj,and_assoc]
abbrev CV:=Option (List Prop×V)
def WZ {α:Type} (b:Bool) (r:α):Option α:=match b with
 | true=>some r
 | false=>none
theorem BJ {α:Type} {b:Bool} {r x:α} (h:WZ b r=some x):b=true/\r=x:=by cases b<;>simp [WZ]at h;grind
def A2 (st:St) (g:Bool) (x:Operand):List Prop×V:=
 match st.ev x with
 | .g c v=>([g=true->c=true],v)
 | v=>([],v)
theorem OT {st:St} {g:Bool} {x:Operand} (hl:Bd (A2 st g x).1):(st.arg g x).1/\(st.arg g x).2=(A2 st g x).2:=by
 unfold A2 at *;unfold St.arg;generalize st.ev x=e at *;cases e with
 | g c v=>exact⟨hl.1,rfl⟩
 | c _=>grind
 | agg _=>grind
 | tup _=>grind
 | undef=>grind
def HK (st:St) (g:Bool):List Operand->List Prop×List V
 | []=>([],[])
 | x::xs=>((A2 st g x).1++(HK st g xs).1,(A2 st g x).2::(HK st g xs).2)
theorem Ri {st:St} {g:Bool}: ∀ {xs:List Operand},Bd (HK st g xs).1->(st.args g xs).1/\(st.args g xs).2=(HK st g xs).2
 | [],_=>⟨trivial,rfl⟩
 | x::xs,hl=>by obtain⟨h1,h2⟩:=Aj.1 hl;have a:=OT (st:=st) (g:=g) (x:=x) h1;have b:=Ri (st:=st) (g:=g) (xs:=xs) h2;simp only [St.args,HK];exact⟨⟨a.1,b.1⟩,by rw [a.2,b.2]⟩
def gE:V->Option (Option Bool×Bool)
 | .c (.bool q)=>some (none,q)
 | .g c (.c (.bool q))=>some (some c,q)
 | _=>none
def wy (p:Prop):Option Bool->List Prop
 | none=>[]
 | some c=>[p->c=true]
theorem U8 {v:V} {c:Option Bool} {q:Bool} (h:gE v=some (c,q)):Qb v=some (c.getD true,q):=by
 unfold gE at h;split at h<;>simp at h
 ·obtain⟨rfl,rfl⟩:=h;rfl
 ·obtain⟨rfl,rfl⟩:=h;rfl
theorem XI {p:Prop} {c:Option Bool} (h:Bd (wy p c)):p->c.getD true=true:=by
 cases c with
 | none=>intro _;rfl
 | some c=>exact h.1
def AcI (l:List Prop) (p:Bool) (a b:V):CV:=
 match gE a,gE b with
 | some (ca,q),some (cb,r)=>some (l++(wy (p=true) ca++wy (p=false) cb), .c (.bool (if p then q else r)))
 | _,_=>none
def rR (P:Program) (t:TypeId) (st:St) (l:List Prop):V->CV
 | .c (.ptr id off)=>match KO P t,st.ac9 id with
   | some (ag,n),some e=>WZ (Nat.ble (off+n) e.cs.length&&(ag||Nat.blt 0 n)) (l,toV ag off n e.cs)
   | _,_=>none
 | .c (.acm cs off)=>match KO P t with
   | some (ag,n)=>WZ (Nat.ble (off+n) cs.length&&(ag||Nat.blt 0 n)) (l,toV ag off n cs)
   | _=>none
 | _=>none
theorem U9 {P:Program} {t:TypeId} {st:St} {l l':List Prop} {x v:V} (h:rR P t st l x=some (l',v)):l=l'/\(DJ P t st x).1/\(DJ P t st x).2=v:=by
 unfold rR at h;unfold DJ;split at h
 ·split at h
  ·rename_i ag n e h1 h2;obtain⟨hb,hr⟩:=BJ h;simp_all
  ·cases h
 ·split at h
  ·rename_i ag n h1;obtain⟨hb,hr⟩:=BJ h;simp_all
  ·cases h
 ·cases h
def wz (P:Program) (t:TypeId) (st:St) (l:List Prop) (u:V):V->CV
 | .c (.ptr id off)=>match KO P t,st.ac9 id with
   | some (ag,n),some e=>WZ (ag||Nat.blt 0 n) (l++[off+n<=e.cs.length/\toV ag off n e.cs=u],u)
   | _,_=>none
 | .c (.acm cs off)=>match KO P t with
   | some (ag,n)=>WZ (ag||Nat.blt 0 n) (l++[off+n<=cs.length/\toV ag off n cs=u],u)
   | _=>none
 | _=>none
theorem kF {P:Program} {t:TypeId} {st:St} {l l':List Prop} {x u v:V} (h:wz P t st l u x=some (l',v)) (hl:Bd l'):Bd l/\(DJ P t st x).1/\(DJ P t st x).2=v:=by
 unfold wz at h;unfold DJ;split at h
 ·split at h
  ·rename_i ag n e h1 h2;obtain⟨hb,hr⟩:=BJ h;simp only [injEq]at hr;obtain⟨rfl,rfl⟩:=hr;obtain⟨q1,q2,_⟩:=Aj.1 hl;simp_all
  ·cases h
 ·split at h
  ·rename_i ag n h1;obtain⟨hb,hr⟩:=BJ h;simp only [injEq]at hr;obtain⟨rfl,rfl⟩:=hr;obtain⟨q1,q2,_⟩:=Aj.1 hl;simp_all
  ·cases h
 ·cases h
def kEq:BinOp->IntKind->IntKind->Bool
 | .shl,_,_ | .shr,_,_=>true
 | _,k,k'=>k==k'
theorem kG {op:BinOp} {k k':IntKind} (h:kEq op k k'=true):Lv op k k':=by unfold kEq at h;grind [Lv]
def AdC (op:BinOp) (b:Int):List Prop:=
 match op with
 | .quo | .rem =>[b ≠ 0]
 | .shl | .shr =>[0<=b]
 | _=>[]
theorem ui {op:BinOp} {k:IntKind} {a b:Int} (h:Bd (AdC op b)):(Ke op k a b).1:=by cases op<;>simp_all [AdC,Ke,Bd]
def AdD (op:BinOp) (a b:List UInt8):Option (List Prop):=
 match op with
 | .add =>some [a.length+b.length<=maxLen]
 | .eql | .neq | .lss | .leq | .gtr | .geq =>some []
 | _=>none
theorem uj {op:BinOp} {a b:List UInt8} {l:List Prop} (h:AdD op a b=some l) (hl:Bd l):(Lu op a b).1:=by cases op<;>simp_all [AdD,Lu]<;>(subst h;exact hl.1)
def AdE (P:Program) (op:BinOp) (t:TypeId) (kc:Bool) (l:List Prop):V->V->CV
 | .c (.int k a), .c (.int k' b)=>WZ (kEq op k k') (l++AdC op b, .c (Ke op k a b).2)
 | .c (.str a), .c (.str b)=>match AdD op a b with
   | some c=>some (l++c, .c (Lu op a b).2)
   | none=>none
 | .agg cs, .agg ds=>match op with
   | .eql =>WZ (oL P t cs ds) (l, .c (.bool (BS cs ds)))
   | .neq =>WZ (oL P t cs ds) (l, .c (.bool !(BS cs ds)))
   | _=>none
 | x,y=>some (l++[(V4 P op t kc x y).1],(V4 P op t kc x y).2)
def Mk (P:Program) (op:BinOp) (t:TypeId) (k:Bool) (x y:V):Prop×V:=
 match x,y with
 | .agg cs, .agg ds=>kx P op t cs ds
 | x,y=>V4 P op t k x y
theorem oS {P:Program} {op:BinOp} {t:TypeId} {kc:Bool} {l l':List Prop} {x y v:V} (h:AdE P op t kc l x y=some (l',v)) (hl:Bd l'):Bd l/\(Mk P op t kc x y).1/\(Mk P op t kc x y).2=v:=by
 unfold AdE at h;split at h
 ·obtain⟨hb,hr⟩:=BJ h;simp only [injEq]at hr;obtain⟨rfl,rfl⟩:=hr;obtain⟨q1,q2⟩:=Aj.1 hl;exact⟨q1,⟨kG hb,ui q2⟩,rfl⟩
 ·split at h
  ·rename_i c hc;simp only [Option.some.injEq,injEq]at h;obtain⟨rfl,rfl⟩:=h;obtain⟨q1,q2⟩:=Aj.1 hl;exact⟨q1,uj hc q2,rfl⟩
  ·cases h
 ·split at h
  ·obtain⟨hb,hr⟩:=BJ h;simp only [injEq]at hr;exact⟨hr.1▸hl,hb,hr.2⟩
  ·obtain⟨hb,hr⟩:=BJ h;simp only [injEq]at hr;exact⟨hr.1▸hl,hb,hr.2⟩
  ·cases h
 ·rename_i hne;simp only [Option.some.injEq,injEq]at h;obtain⟨rfl,rfl⟩:=h;obtain⟨q1,q2⟩:=Aj.1 hl;have e:Mk P op t kc x y=V4 P op t kc x y:=by grind [Mk]
  rw [e];exact⟨q1,q2.1,rfl⟩
def AdF (P:Program) (t:TypeId) (st:St) (l:List Prop) (x y:V):CV:=
 match y with
 | .c (.int _ i)=>match x with
   | .c (.sl len cs)=>match Dj P t with
     | some (_,n)=>some (l++[0<=i/\i<len], .c (.acm cs (i.toNat*n)))
     | none=>none
   | .c (.n_ id)=>match Dj P t,st.ac9 id with
     | some (_,n),some e=>match e.row with
       | some (_,_,len)=>some (l++[0<=i/\i<len], .c (.ptr id (i.toNat*n)))
       | none=>none
     | _,_=>none
   | .c (.bsl id off len)=>match Dj P t with
     | some (_,n)=>some (l++[0<=i/\i<len], .c (.ptr id (off+i.toNat*n)))
     | none=>none
   | .c (.ptr id off)=>match Gd P t with
     | some (k,_,n)=>some (l++[0<=i/\i<k], .c (.ptr id (off+i.toNat*n)))
     | none=>none
   | .c (.acm cs off)=>match Gd P t with
     | some (k,_,n)=>some (l++[0<=i/\i<k], .c (.acm cs (off+i.toNat*n)))
     | none=>none
   | _=>none
 | _=>none
theorem oT {P:Program} {t:TypeId} {st:St} {l l':List Prop} {x y v:V} (h:AdF P t st l x y=some (l',v)) (hl:Bd l'):Bd l/\(B8 P t st x y).1/\(B8 P t st x y).2=v:=by
 unfold AdF at h;unfold B8;split at h
 ·split at h
  ·split at h
   ·rename_i h1;simp only [Option.some.injEq,injEq]at h;obtain⟨rfl,rfl⟩:=h;obtain⟨q1,q2,_⟩:=Aj.1 hl;grind
   ·cases h
  ·split at h
   ·rename_i h1 h2;split at h
    ·rename_i h3;simp only [Option.some.injEq,injEq]at h;obtain⟨rfl,rfl⟩:=h;obtain⟨q1,q2,_⟩:=Aj.1 hl;grind
    ·cases h
   ·cases h
  ·split at h
   ·rename_i h1;simp only [Option.some.injEq,injEq]at h;obtain⟨rfl,rfl⟩:=h;obtain⟨q1,q2,_⟩:=Aj.1 hl;grind
   ·cases h
  ·split at h
   ·rename_i h1;simp only [Option.some.injEq,injEq]at h;obtain⟨rfl,rfl⟩:=h;obtain⟨q1,q2,_⟩:=Aj.1 hl;grind
   ·cases h
  ·split at h
   ·rename_i h1;simp only [Option.some.injEq,injEq]at h;obtain⟨rfl,rfl⟩:=h;obtain⟨q1,q2,_⟩:=Aj.1 hl;grind
   ·cases h
  ·cases h
 ·cases h
def AdG (P:Program) (t:TypeId) (l:List Prop) (x:V) (lo hi:Option V):CV:=
 match x with
 | .c (.str s)=>match bK s.length lo hi with
   | some (a,h)=>WZ (Eb P t) (l++[0<=a/\a<=h/\h<=s.length], .c (.str ((s.drop a.toNat).take (h.toNat - a.toNat))))
   | none=>none
 | .c (.sl len cs)=>match Dj P t,bK len lo hi with
   | some (_,n),some (a,h)=>some (l++[0<=a/\a<=h/\h<=len,cs.length=len*n], .c (.sl (h.toNat - a.toNat) ((cs.drop (a.toNat*n)).take ((h.toNat - a.toNat)*n))))
   | _,_=>none
 | .c (.ptr id off)=>match Gd P t with
   | some (k,_,n)=>match bK k lo hi with
     | some (a,h)=>some (l++[0<=a/\a<k/\a<=h/\h<=k], .c (.bsl id (off+a.toNat*n) (h.toNat - a.toNat)))
     | none=>none
   | none=>none
 | _=>none
theorem oU {P:Program} {t:TypeId} {l l':List Prop} {x v:V} {lo hi:Option V} (h:AdG P t l x lo hi=some (l',v)) (hl:Bd l'):Bd l/\(GY P t x lo hi).1/\(GY P t x lo hi).2=v:=by
 unfold AdG at h;unfold GY;split at h
 ·split at h
  ·rename_i a hh h1;obtain⟨hb,hr⟩:=BJ h;simp only [injEq]at hr;obtain⟨rfl,rfl⟩:=hr;obtain⟨q1,q2,_⟩:=Aj.1 hl;grind
  ·cases h
 ·split at h
  ·rename_i h1 h2;simp only [Option.some.injEq,injEq]at h;obtain⟨rfl,rfl⟩:=h;obtain⟨q1,q2,q3,_⟩:=Aj.1 hl;grind
  ·cases h
 ·split at h
  ·rename_i h1;split at h
   ·rename_i h2;simp only [Option.some.injEq,injEq]at h;obtain⟨rfl,rfl⟩:=h;obtain⟨q1,q2,_⟩:=Aj.1 hl;grind
   ·cases h
  ·cases h
 ·cases h
def gF (st:St) (g:Bool):Option Operand->List Prop×Option V
 | none=>([],none)
 | some x=>((A2 st g x).1,some (A2 st g x).2)
theorem Aam {st:St} {g:Bool}: ∀ {x:Option Operand},Bd (gF st g x).1->(C3 st g x).1/\(C3 st g x).2=(gF st g x).2
 | none,_=>⟨trivial,rfl⟩
 | some x,hl=>by grind [OT,C3,gF]
def AdH (P:Program) (s:TypeId) (f:Nat) (l:List Prop):V->CV
 | .c (.ptr id off)=>match wn P s f with
   | some (o,_,n)=>WZ (Nat.blt 0 n) (l, .c (.ptr id (off+o)))
   | none=>none
 | .c (.acm cs off)=>match wn P s f with
   | some (o,_,n)=>WZ (Nat.blt 0 n) (l, .c (.acm cs (off+o)))
   | none=>none
 | _=>none
theorem oV {P:Program} {s:TypeId} {f:Nat} {l l':List Prop} {x v:V} (h:AdH P s f l x=some (l',v)):l=l'/\(BV P s f x).1/\(BV P s f x).2=v:=by
 unfold AdH at h;unfold BV;split at h
 ·split at h
  ·rename_i h1;obtain⟨hb,hr⟩:=BJ h;simp_all
  ·cases h
 ·split at h
  ·rename_i h1;obtain⟨hb,hr⟩:=BJ h;simp_all
  ·cases h
 ·cases h
def oW (P:Program) (t:TypeId) (f:Nat) (l:List Prop):V->CV
 | .agg cs=>match wn P t f with
   | some (o,ag,n)=>WZ (Nat.ble (o+n) cs.length&&(ag||Nat.blt 0 n)) (l,toV ag o n cs)
   | none=>none
 | _=>none
theorem gG {P:Program} {s:TypeId} {f:Nat} {l l':List Prop} {x v:V} (h:oW P s f l x=some (l',v)):l=l'/\(Jf P s f x).1/\(Jf P s f x).2=v:=by
 unfold oW at h;unfold Jf;split at h
 ·split at h
  ·rename_i h1;obtain⟨hb,hr⟩:=BJ h;simp_all
  ·cases h
 ·cases h
def wA (P:Program) (t:TypeId) (l:List Prop) (x y:V) (u:Option V):CV:=
 match y with
 | .c (.int _ i)=>match x with
   | .c (.str s)=>WZ (Eb P t) (l++[0<=i/\i<s.length], .c (.int .u8 (s.getD i.toNat 0).toNat))
   | .agg cs=>match Gd P t with
     | some (k,e,n)=>match KO P e,u with
       | some (ag,_),some u=>WZ (Nat.blt 0 n) (l++[(0<=i/\i<k)/\i.toNat*n+n<=cs.length/\toV ag (i.toNat*n) n cs=u],u)
       | _,_=>none
     | none=>none
   | _=>none
 | _=>none
theorem kH {P:Program} {t:TypeId} {l l':List Prop} {x y v:V} {u:Option V} (h:wA P t l x y u=some (l',v)) (hl:Bd l'):Bd l/\(Ih P t x y).1/\(Ih P t x y).2=v:=by
 unfold wA at h;unfold Ih;split at h
 ·split at h
  ·obtain⟨hb,hr⟩:=BJ h;simp only [injEq]at hr;obtain⟨rfl,rfl⟩:=hr;obtain⟨q1,q2,_⟩:=Aj.1 hl;grind
  ·split at h
   ·rename_i h1;split at h
    ·rename_i h2;obtain⟨hb,hr⟩:=BJ h;simp only [injEq]at hr;obtain⟨rfl,rfl⟩:=hr;obtain⟨q1,q2,_⟩:=Aj.1 hl;simp_all
    ·cases h
   ·cases h
  ·cases h
 ·cases h
def unC (op:UnOp) (l:List Prop):V->CV
 | .c (.int k n)=>match op with
   | .neg =>some (l, .c (.int k (k.wrap (0 - n))))
   | .xor =>some (l, .c (.int k (KP k (if k.signed then -1 else k.max) n)))
   | _=>none
 | .c (.bool b)=>match op with
   | .not =>some (l, .c (.bool !b))
   | _=>none
 | _=>none
theorem uk {op:UnOp} {l l':List Prop} {x v:V} (h:unC op l x=some (l',v)):l=l'/\(zZ op x).1/\(zZ op x).2=v:=by unfold unC at h;grind [zZ]
def wB (P:Program) (src dst:TypeId) (st:St) (l:List Prop):V->CV
 | .c (.int _ n)=>match kf P dst with
   | some k=>WZ (Aaf P src) (l, .c (.int k (k.wrap n)))
   | none=>none
 | .c (.str s)=>WZ (Eb P src&&Eb P dst) (l, .c (.str s))
 | x=>some (l++[(Kh P src dst st x).1],(Kh P src dst st x).2)
theorem kI {P:Program} {src dst:TypeId} {st:St} {l l':List Prop} {x v:V} (h:wB P src dst st l x=some (l',v)) (hl:Bd l'):Bd l/\(Kh P src dst st x).1/\(Kh P src dst st x).2=v:=by
 unfold wB at h;split at h
 ·grind [Kh,BJ]
 ·grind [Kh,BJ]
 ·simp only [Option.some.injEq,injEq]at h;obtain⟨rfl,rfl⟩:=h;obtain⟨q1,q2,_⟩:=Aj.1 hl;grind
def AdI (P:Program) (t:TypeId) (st:St) (l:List Prop):V->CV
 | .c (.str s)=>WZ (Eb P t) (l, .c (.int .i64 s.length))
 | .c (.sl len _)=>WZ (D6 P t) (l, .c (.int .i64 len))
 | .c (.n_ id)=>match st.ac9 id with
   | some e=>match e.row with
     | some (_,_,len)=>WZ (D6 P t) (l, .c (.int .i64 len))
     | none=>none
   | none=>none
 | x=>some (l++[(P9 P t st x).1],(P9 P t st x).2)
theorem oX {P:Program} {t:TypeId} {st:St} {l l':List Prop} {x v:V} (h:AdI P t st l x=some (l',v)) (hl:Bd l'):Bd l/\(P9 P t st x).1/\(P9 P t st x).2=v:=by
 unfold AdI at h;split at h
 ·obtain⟨hb,hr⟩:=BJ h;simp only [injEq]at hr;exact⟨hr.1▸hl,hb,hr.2⟩
 ·obtain⟨hb,hr⟩:=BJ h;simp only [injEq]at hr;exact⟨hr.1▸hl,hb,hr.2⟩
 ·grind [P9,BJ]
 ·simp only [Option.some.injEq,injEq]at h;obtain⟨rfl,rfl⟩:=h;obtain⟨q1,q2,_⟩:=Aj.1 hl;grind
def Aan (P:Program) (st:St) (g:Bool) (op:Op):Option V->CV
 | none=>some ([(DQ P st g op).1],(DQ P st g op).2)
 | some u=>some ([(DQ P st g op).1/\(DQ P st g op).2=u],u)
theorem Qg {P:Program} {st:St} {g:Bool} {u:Option V} {op:Op} {l:List Prop} {v:V} (h:Aan P st g op u=some (l,v)) (hl:Bd l):(DQ P st g op).1/\(DQ P st g op).2=v:=by
 cases u<;>simp only [Aan,Option.some.injEq,injEq]at h<;>obtain⟨rfl,rfl⟩:=h
 ·exact⟨hl.1,rfl⟩
 ·exact hl.1
def op1 (P:Program) (st:St) (g:Bool) (u:Option V):Op->CV
 | .move x=>some (A2 st g x)
 | .assign x=>some (A2 st g x)
 | .pick c a b=>match (A2 st g c).2 with
   | .c (.bool p)=>AcI (A2 st g c).1 p (st.ev a) (st.ev b)
   | _=>none
 | .load t x=>match u with
   | none=>rR P t st (A2 st g x).1 (A2 st g x).2
   | some u=>wz P t st (A2 st g x).1 u (A2 st g x).2
 | .binOp op t x y _=>AdE P op t (BI x||BI y) ((A2 st g x).1++(A2 st g y).1) (A2 st g x).2 (A2 st g y).2
 | .unOp op _ x=>unC op (A2 st g x).1 (A2 st g x).2
 | .convert src dst x=>wB P src dst st (A2 st g x).1 (A2 st g x).2
 | .slice t x lo hi none=>AdG P t ((A2 st g x).1++((gF st g lo).1++(gF st g hi).1)) (A2 st g x).2 (gF st g lo).2 (gF st g hi).2
 | .fieldAddr s x f=>AdH P s f (A2 st g x).1 (A2 st g x).2
 | .field t x f=>oW P t f (A2 st g x).1 (A2 st g x).2
 | .indexAddr t x i=>AdF P t st ((A2 st g x).1++(A2 st g i).1) (A2 st g x).2 (A2 st g i).2
 | .index t x i=>wA P t ((A2 st g x).1++(A2 st g i).1) (A2 st g x).2 (A2 st g i).2 u
 | .call c=>match c.callee,c.args.toList,c.argTypes.toList with
   | .builtin .len,[x],[t]=>AdI P t st (A2 st g x).1 (A2 st g x).2
   | _,_,_=>Aan P st g (.call c) none
 | op=>Aan P st g op u
theorem dP {P:Program} {st:St} {g:Bool} {u:Option V} {op:Op} {l:List Prop} {v:V} (h:op1 P st g u op=some (l,v)) (hl:Bd l):(DQ P st g op).1/\(DQ P st g op).2=v:=by
 have A: ∀ x,Bd (A2 st g x).1->(st.arg g x).1/\(st.arg g x).2=(A2 st g x).2:=fun x hx=>OT hx;have O: ∀ x,Bd (gF st g x).1->(C3 st g x).1/\(C3 st g x).2=(gF st g x).2:=fun x hx=>Aam hx;cases op<;>simp only [op1]at h<;>try exact Qg h hl
 case move x=>
  grind [DQ,rd]
 case assign x=>
  grind [DQ,rd]
 case pick c a b=>
  split at h
  ·rename_i p hp;unfold AcI at h;split at h
   ·rename_i ca q cb r h1 h2;simp only [Option.some.injEq,injEq]at h;obtain⟨rfl,rfl⟩:=h;obtain⟨q1,q2⟩:=Aj.1 hl;obtain⟨q2,q3⟩:=Aj.1 q2;obtain⟨k1,k2⟩:=A c q1;rw [hp]at k2;simp only [DQ,rd,Z_,k2,Xm,U8 h1,U8 h2];exact⟨⟨k1,XI q2,XI q3⟩,trivial⟩
   ·cases h
  ·cases h
 case load t x=>
  split at h
  ·have:=U9 h;grind [DQ,rd,Z_]
  ·have:=kF h hl;grind [DQ,rd,Z_]
 case binOp op t x y ty=>
  have:=oS h hl;obtain⟨q1,q2⟩:=Aj.1 this.1;obtain⟨k1,k2⟩:=A x q1;obtain⟨k3,k4⟩:=A y q2;have e:DQ P st g (.binOp op t x y ty)=((st.arg g x).1/\(st.arg g y).1/\(Mk P op t (BI x||BI y) (st.arg g x).2 (st.arg g y).2).1,(Mk P op t (BI x||BI y) (st.arg g x).2 (st.arg g y).2).2):=by
   simp only [DQ];unfold Mk;split
   ·grind
   ·rename_i hne;split
    ·grind
    ·rfl
  grind
 case unOp op t x=>
  have:=uk h;grind [DQ,rd,Z_]
 case convert s d x=>
  have:=kI h hl;grind [DQ,rd,Z_]
 case slice t x lo hi mx=>
  cases mx with
  | some m=>exact Qg h hl
  | none=>
    have:=oU h hl;grind [Aj,DQ,rd,Z_]
 case fieldAddr s x f=>
  have:=oV h;grind [DQ,rd,Z_]
 case field s x f=>
  have:=gG h;grind [DQ,rd,Z_]
 case indexAddr t x y=>
  have:=oT h hl;grind [Aj,DQ,rd,Z_]
 case index t x y=>
  have:=kH h hl;grind [Aj,DQ,rd,Z_]
 case call c=>
  split at h
  ·rename_i x t h1 h2 h3;have:=oX h hl;grind [DQ,rd,Qc,Z_]
  ·exact Qg h hl
def opT (P:Program) (st:St) (g:Bool) (u:Option V) (op:Op):CV:=
 match u with
 | none=>op1 P st g none op
 | some u=>match op1 P st g (some u) op with
   | some (l,v)=>some (l++[v=u],u)
   | none=>none
theorem OU {P:Program} {st:St} {g:Bool} {u:Option V} {op:Op} {l:List Prop} {v:V} (h:opT P st g u op=some (l,v)) (hl:Bd l):(DQ P st g op).1/\(DQ P st g op).2=v:=by
 cases u with
 | none=>grind [opT,dP]
 | some u=>
   simp only [opT]at h;split at h
   ·rename_i l1 v1 h1;simp only [Option.some.injEq,injEq]at h;obtain⟨rfl,rfl⟩:=h;obtain⟨q1,q2,_⟩:=Aj.1 hl;grind [dP]
   ·cases h
end Go.PL
namespace Go.PL
open Go Go.RowKit
mutual
def C.q_ (p:Ah->Bool):C->Bool
 | .n_ i=>p i
 | .ptr i _=>p i
 | .bsl i _ _=>p i
 | .rsl i _ _ _=>p i
 | .bld i _=>p i
 | .agP i=>p i
 | .clo _ cs=>CD p cs
 | .bmv _ cs=>CD p cs
 | _=>false
def CD (p:Ah->Bool):List C->Bool
 | []=>false
 | c::cs=>c.q_ p||CD p cs
end
mutual
def V.q_ (p:Ah->Bool):V->Bool
 | .c x=>x.q_ p
 | .agg cs=>CD p cs
 | .tup vs=>NK p vs
 | .g _ v=>v.q_ p
 | .undef =>false
def NK (p:Ah->Bool):List V->Bool
 | []=>false
 | v::vs=>v.q_ p||NK p vs
end
def Cj (p:Ah->Bool) (c:C):C:=if c.q_ p then .any else c
def Bv (p:Ah->Bool) (v:V):V:=if v.q_ p then .undef else v
def AB.j_ (p:Ah->Bool) (e:AB):AB:=match e with
 | ⟨i,r,cs,true⟩=>⟨i,r,cs,true⟩
 | ⟨i,r,cs,false⟩=>⟨i,r,cs.map (Cj p),false⟩
theorem AB.K_ (p:Ah->Bool) (e:AB):(e.j_ p).id =e.id:=by obtain⟨i,r,cs,_ | _⟩:=e<;>rfl
theorem AB.agT (p:Ah->Bool) (e:AB):(e.j_ p).pu =e.pu:=by obtain⟨i,r,cs,_ | _⟩:=e<;>rfl
mutual
theorem oY (p:Ah->Bool) (i:Ah): ∀ c:C,c.q_ p=false->c.E_ i=true->p i=false
 | .n_ _,h,k=>by simp_all [C.q_,C.E_]
 | .ptr _ _,h,k=>by simp_all [C.q_,C.E_]
 | .rsl _ _ _ _,h,k=>by simp_all [C.q_,C.E_]
 | .bsl _ _ _,h,k=>by simp_all [C.q_,C.E_]
 | .bld _ _,h,k=>by simp_all [C.q_,C.E_]
 | .agP _,h,k=>by simp_all [C.q_,C.E_]
 | .clo _ cs,h,k=>XJ p i cs (by simpa only [C.q_] using h) (by simpa only [C.E_] using k)
 | .bmv _ cs,h,k=>XJ p i cs (by simpa only [C.q_] using h) (by simpa only [C.E_] using k)
 | .int ..,_,k=>by simp [C.E_]at k
 | .bool _,_,k=>by simp [C.E_]at k
 | .str _,_,k=>by simp [C.E_]at k
 | .sl ..,_,k=>by simp [C.E_]at k
 | .acm ..,_,k=>by simp [C.E_]at k
 | .acV,_,k=>by simp [C.E_]at k
 | .aaJ,_,k=>by simp [C.E_]at k
 | .Tv,_,k=>by simp [C.E_]at k
 | .fn _,_,k=>by simp [C.E_]at k
 | .held,_,k=>by simp [C.E_]at k
 | .any,_,k=>by simp [C.E_]at k
 | .agZ ..,_,k=>by simp [C.E_]at k
 | .mp _,_,k=>by simp [C.E_]at k
 | .isl ..,_,k=>by simp [C.E_]at k
theorem XJ (p:Ah->Bool) (i:Ah): ∀ cs:List C,CD p cs=false->BO i cs=true->p i=false
 | [],_,k=>by simp [BO]at k
 | c::cs,h,k=>by
   simp only [CD,or_eq_false_iff]at h;simp only [BO,or_eq_true]at k;rcases k with k | k
   ·exact oY p i c h.1 k
   ·exact XJ p i cs h.2 k
end
mutual
theorem gH (p:Ah->Bool) (i:Ah): ∀ v:V,v.q_ p=false->v.E_ i=true->p i=false
 | .c x,h,k=>(by grind [oY,V.q_,V.E_])
 | .agg cs,h,k=>(by grind [XJ,V.q_,V.E_])
 | .tup vs,h,k=>rS p i vs (by simpa only [V.q_] using h) (by simpa only [V.E_] using k)
 | .g b v,h,k=>by simp only [V.E_,and_eq_true]at k;exact gH p i v (by simpa only [V.q_] using h) k.1
 | .undef,_,k=>by simp [V.E_]at k
theorem rS (p:Ah->Bool) (i:Ah): ∀ vs:List V,NK p vs=false->KN i vs=true->p i=false
 | [],_,k=>by simp [KN]at k
 | v::vs,h,k=>by
   simp only [NK,or_eq_false_iff]at h;simp only [KN,or_eq_true]at k;rcases k with k | k
   ·exact gH p i v h.1 k
   ·exact rS p i vs h.2 k
end
theorem XK {p:Ah->Bool} {i:Ah} {c:C} (h:(Cj p c).E_ i=true):p i=false:=by grind [Cj,C.E_,oY]
theorem XL {p:Ah->Bool} {i:Ah}: ∀ {cs:List C},BO i (cs.map (Cj p))=true->p i=false
 | [],h=>by simp [BO]at h
 | c::cs,h=>by
   simp only [map_cons,BO,or_eq_true]at h;rcases h with h | h
   ·exact XK h
   ·exact XL h
theorem Js {p:Ah->Bool} {i:Ah} {v:V} (h:(Bv p v).E_ i=true):p i=false:=by grind [Bv,V.E_,gH]
theorem Va {p:Ah->Bool} {i:Ah}: ∀ {vs:List V},KN i (vs.map (Bv p))=true->p i=false
 | [],h=>by simp [KN]at h
 | v::vs,h=>by
   simp only [map_cons,KN,or_eq_true]at h;rcases h with h | h
   ·exact Js h
   ·exact Va h
theorem XM {w:World} {G:AJ} {p:Ah->Bool} {c:C} {v:Value} (h:Af w G c v):Af w G (Cj p c) v:=by
 unfold Cj;split
 ·simp only [Af];exact h.one
 ·exact h
theorem Ml {w:World} {G:AJ} {p:Ah->Bool}: ∀ {cs:List C} {b o:Nat},Am w G cs b o->Am w G (cs.map (Cj p)) b o
 | [],_,_,_=>by grind
 | c::cs,b,o,h=>by simp only [Am,map_cons]at h ⊢;exact⟨h.1.imp fun v q=>⟨q.1,XM q.2⟩,Ml h.2⟩
theorem Jt {w:World} {G:AJ} {p:Ah->Bool} {x:V} {v:Value} (h:Ad w G x v):Ad w G (Bv p x) v:=by grind [Bv,Ad]
theorem Vb {w:World} {G:AJ} {p:Ah->Bool}: ∀ {xs:List V} {vs:List Value},Aw w G xs vs->Aw w G (xs.map (Bv p)) vs
 | [],vs,h=>by grind
 | x::xs,vs,h=>by simp only [Aw,map_cons]at h ⊢;obtain⟨v,r,e,h1,h2⟩:=h;exact⟨v,r,e,Jt h1,Vb h2⟩
theorem wC {p:Ah->Bool} {kv:List (Int×Int)}:[C.mp kv].map (Cj p)=[C.mp kv]:=by simp [Cj,C.q_]
theorem oZ {w:World} {G:AJ} {p:Ah->Bool} {e:AB} (h:Ba w G e):Ba w G (e.j_ p):=by
 obtain⟨i,r,cs,pu⟩:=e;cases pu with
 | true=>exact h
 | false=>
 unfold Ba at *;cases r with
 | none=>
   obtain⟨b,h1,h2⟩:=h;refine⟨b,h1,?_⟩;rcases h2 with ⟨kv,es,h2,h3⟩ | ⟨T,cur,h2,h3,h4⟩
   ·dsimp only [AB.j_]at h2 ⊢;rw [h2,wC];exact .inl ⟨kv,es,rfl,h3⟩
   ·exact .inr ⟨T,cur,h2,by simpa [AB.j_] using h3,Ml h4⟩
 | some q=>
   obtain⟨E,n,len⟩:=q;obtain⟨hl,v,h1,h2⟩:=h;refine⟨by grind [AB.j_],v,h1,?_⟩;rcases h2 with h2 | ⟨b,cap,cur,e1,e2,e3,e4,e5,e6,e7⟩
   ·exact .inl h2
   ·exact .inr ⟨b,cap,cur,e1,e2,e3,e4,e5,e6,Ml e7⟩
theorem wD {p:Ah->Bool} {i:Ah} {e:AB} (hp:e.pu=true->Au e.cs=true) (h:BO i (e.j_ p).cs =true):p i=false:=by
 obtain⟨j,r,cs,pu⟩:=e;cases pu with
 | true=>rw [show (AB.j_ p ⟨j,r,cs,true⟩).cs =cs from rfl,AU i cs (hp rfl)]at h;cases h
 | false=>exact XL (cs:=cs) h
theorem Bu.j_ {w:World} {G:AJ} {p:Ah->Bool} {e:AB} (h:Bu w G e):Bu w G (e.j_ p):=by
 obtain⟨i,r,cs,pu⟩:=e;cases pu with
 | true=>exact h
 | false=>exact⟨h.1,fun hd=>absurd (h.2 hd).1 (by simp)⟩
theorem Qh {p:Ah->Bool} {e:AB} (h:e.pu=true->Au e.cs=true):(e.j_ p).pu =true->Au (e.j_ p).cs =true:=by
 obtain⟨i,r,cs,pu⟩:=e;cases pu with
 | true=>exact h
 | false=>intro hq;cases hq
theorem wE (cs:List C):CD (fun _=>false) cs=false:=by
 have key: ∀ c:C,c.q_ (fun _=>false)=false:=by intro c;induction c using C.rec (motive_2:=fun cs=>CD (fun _=>false) cs=false)<;>simp_all [C.q_,CD]
 induction cs<;>grind [CD]
theorem Aao (c:C):c.q_ (fun _=>false)=false:=by have:=wE [c];simpa [CD] using this
theorem dQ: ∀ cs:List C,cs.map (Cj (fun _=>false))=cs
 | []=>rfl
 | c::cs=>by rw [map_cons,dQ cs,Cj,if_neg (by simp [Aao])]
theorem AB.arp (e:AB):e.j_ (fun _=>false)=e:=by
 obtain⟨i,r,cs,_ | _⟩:=e
 all_goals grind [AB.j_,dQ]
structure I_ (F:Fr) (p q:Ah->Bool) (G G':AJ) (w w':World):Prop where
 agree: ∀ i,p i=false->G'.y_ i=G.y_ i/\G'.own i=G.own i
 same: ∀ i b,q i=false->G.y_ i=some b->w'.heap[b]? =w.heap[b]?
 keeps:Cf G G' w w'
 outer:NE w w'
 ext: ∀ b,b<F.w0.heap.size-> ¬F.old b->w'.heap[b]? =w.heap[b]?
 wr: ∀ b,G'.wr b↔F.av b\/ ∃ i,G'.y_ i=some b
 inj: ∀ i j b,G'.y_ i=some b->G'.y_ j=some b->i=j
 lt: ∀ i b,G'.y_ i=some b->b<w'.heap.size
 new: ∀ i b,G'.y_ i=some b->F.w0.heap.size<=b\/F.old b
def St.j_ (st:St) (p:Ah->Bool) (so:List AB):St:={tm:=st.tm.map (Bv p),so:=so,gh:=st.gh.map (Bv p),pre:=st.pre}
section
variable {F:Fr} {st:St} {a:Act} {w w':World} {G G':AJ} {p q:Ah->Bool}
theorem I_.ent (h:R F st a w G) (t:I_ F p q G G' w w') {e:AB} (he:e∈st.so) (hp:p e.id=false) (hq:q e.id=false):Ba w' G' (e.j_ p):=by
 refine Cq t.keeps (fun i hi=>t.agree i (wD (h.P_ e he) hi)) ?_ ?_ (oZ (h.store e he))
 ·rw [AB.K_];exact t.agree _ hp
 ·intro b hb;rw [AB.K_]at hb;exact t.same _ b hq hb
theorem I_.deep (h:R F st a w G) (t:I_ F p q G G' w w') {e:AB} (he:e∈st.so) (hp:p e.id=false) (hq:q e.id=false) (hm:E9 e.id=true-> ∀ k,p (BL k e.id)=false/\q (BL k e.id)=false):Bu w' G' (e.j_ p):=by
 refine Bu.mono t.keeps (by rw [AB.K_];exact t.agree _ hp) (fun hd k=>?_) ?_ (fun hd k b hb=>?_) (h.deep e he).j_
 ·rw [AB.K_]at hd ⊢;exact t.agree _ (hm hd k).1
 ·intro b hb;rw [AB.K_]at hb;exact t.same _ b hq hb
 ·rw [AB.K_]at hd hb;exact t.same _ b (hm hd k).2 hb
theorem I_.rel (h:R F st a w G) (t:I_ F p q G G' w w') (d_:St) (hl:d_.tm.length=st.tm.length) (hs: ∀ i,Ad w' G' (d_.tm.getD i .undef) (a.tmps.getD i Go.undef)) (hg:Aw w' G' d_.gh F.gv)
 (h1: ∀ e∈d_.so,Ba w' G' e) (h2: ∀ e∈d_.so,Bu w' G' e) (h3: ∀ e∈d_.so,e.pu=true->Au e.cs=true) (h4:(d_.so.map (·.id)).Nodup):R F d_ a w' G' where
 dfr:=h.dfr
 size:=by rw [hl];exact h.size
 M_:=hs
 Tk:=hg
 store:=h1
 deep:=h2
 P_:=h3
 nodup:=h4
 inj:=t.inj
 lt:=t.lt
 new:=t.new
 wr:=t.wr
 abi:=h.abi
 inv:=h.inv
 aaI:=h.aaI
 os:=t.outer.os.trans h.os
 tape:=t.outer.tape.trans h.tape
 output:=t.outer.output.trans h.output
 L_:=Nat.le_trans h.L_ t.keeps.size
 ext:=fun b hb ho=>(t.ext b hb ho).trans (h.ext b hb ho)
theorem I_.agr (h:R F st a w G) (t:I_ F p q G G' w w') (so:List AB)
 (h1: ∀ e∈so,Ba w' G' e) (h2: ∀ e∈so,Bu w' G' e) (h3: ∀ e∈so,e.pu=true->Au e.cs=true) (h4:(so.map (·.id)).Nodup):R F (st.j_ p so) a w' G':=by
 refine t.rel h (st.j_ p so) (by simp [St.j_]) (fun i=>?_) ?_ h1 h2 h3 h4
 ·simp only [St.j_];rw [FN (by simp [Bv,V.q_])];exact Ad.mono t.keeps _ _ (fun i hi=>t.agree i (Js hi)) (Jt (h.M_ i))
 ·exact Aw.mono t.keeps _ _ (fun i hi=>t.agree i (Va hi)) (Vb h.Tk)
theorem I_.kept (h:R F st a w G) (t:I_ F (fun _=>false) q G G' w w') (so:List AB)
 (h1: ∀ e∈so,Ba w' G' e) (h2: ∀ e∈so,Bu w' G' e) (h3: ∀ e∈so,e.pu=true->Au e.cs=true) (h4:(so.map (·.id)).Nodup):R F {st with so:=so} a w' G':=
 t.rel h {st with so:=so} rfl (fun i=>Ad.mono t.keeps _ _ (fun i _=>t.agree i rfl) (h.M_ i)) (Aw.mono t.keeps _ _ (fun i _=>t.agree i rfl) h.Tk) h1 h2 h3 h4
theorem kJ (h:R F st a w G) {i0:Ah} {b:Nat} (hb:G.y_ i0=some b) {cur:Array Value} {T:TypeId} (hh:w.heap[b]? =some (.cells cur T (0,0))) (row:Array Value):I_ F (fun _=>false) (· ==i0) G G w (w.setRow b row) where
 agree:=(by grind)
 same:=fun i b' hi hb'=>setRow_other w b b' _ (fun e=>by have:=h.inj i i0 b' hb' (by grind);grind)
 keeps:=⟨by simp,fun k _ hw=>setRow_other w b k _ (fun e=>hw ((h.wr k).2 (by grind))),fun _ _ q=>q,fun i k h1 _=>by
  by_cases hkb:k=b
  ·subst hkb;intro adS T' fz' hq;rw [hh]at hq;injection hq with hq;injection hq with _ hq _;subst hq;exact⟨_,_,setRow_heap w k cur row T (0,0) hh⟩
  grind [B7.same,setRow_other]⟩
 outer:=⟨by simp,by simp,by simp⟩
 ext:=fun k hk ho=>setRow_other w b k _ (fun e=>by
  rcases h.new i0 b hb with q | q
  all_goals grind)
 wr:=h.wr
 inj:=h.inj
 lt:=fun i k hi=>by simpa using h.lt i k hi
 new:=h.new
theorem G6 (h:R F st a w G) (G':AJ) (hw:G'.wr=fun b=>F.av b\/ ∃ i,G'.y_ i=some b) (ha: ∀ i,p i=false->G'.y_ i=G.y_ i/\G'.own i=G.own i) (hs: ∀ i b,G'.y_ i=some b-> ∃ j,G.y_ j=some b)
 (hi: ∀ i j b,G'.y_ i=some b->G'.y_ j=some b->i=j):I_ F p (fun _=>false) G G' w w where
 agree:=ha
 same:=fun _ _ _ _=>rfl
 keeps:=⟨le_refl _,fun _ _ _=>rfl,fun b _ hb=>by rw [hw]at hb;rw [h.wr];grind,fun _ _ _ _=>B7.same rfl⟩
 outer:=⟨rfl,rfl,rfl⟩
 ext:=fun _ _ _=>rfl
 wr:=fun b=>by rw [hw]
 inj:=hi
 lt:=fun i b hb=>by obtain⟨j,hj⟩:=hs i b hb;exact h.lt j b hj
 new:=fun i b hb=>by obtain⟨j,hj⟩:=hs i b hb;exact h.new j b hj
theorem R.uniq (h:R F st a w G) {d e:AB} (hd:d∈st.so) (he:e∈st.so) (hi:d.id=e.id):d=e:=by have:=List.pairwise_map.1 h.nodup;rcases mem_iff_getElem.1 hd with ⟨i,hi1,rfl⟩;rcases mem_iff_getElem.1 he with ⟨j,hj1,rfl⟩;grind [List.pairwise_iff_getElem]
end
def St.Tz (st:St) (id:Ah):Option AB:=st.so.find? (fun e=>e.id==id&&E9 e.id)
theorem OV {st:St} {id:Ah} {e:AB} (h:st.Tz id=some e):e∈st.so/\e.id=id/\E9 id=true:=by have:=find?_some h;simp only [and_eq_true,beq_iff_eq]at this;exact⟨List.mem_of_find?_eq_some h,this.1,by grind⟩
def aar (id:Ah) (row:Option (TypeId×Nat×Nat)) (cells:List C) (e:AB):AB:=match e.id==id with
 | true=>⟨e.id,row,cells,e.pu⟩
 | false=>e
theorem gI (id:Ah) (row:Option (TypeId×Nat×Nat)) (cells:List C) (e:AB):(aar id row cells e).id =e.id:=by grind [aar]
theorem D7 {id:Ah} {row:Option (TypeId×Nat×Nat)} {cells:List C} {e:AB} (h:e.id ≠ id):aar id row cells e=e:=by grind [aar]
theorem D8 {id:Ah} {row:Option (TypeId×Nat×Nat)} {cells:List C} {e:AB} (h:e.id=id):aar id row cells e=⟨e.id,row,cells,e.pu⟩:=by grind [aar]
def D9 (id:Ah):Ah->Bool
 | m::_::j=>Nat.beq m 1000007&&j==id
 | _=>false
theorem Il (id:Ah) (k:Nat) (j:Ah):D9 id (BL k j)=(j==id):=by simp [D9,BL]
theorem Kn {w:World} {G:AJ}: ∀ {cs:List C} {b o j:Nat} {c:C},Am w G cs b o->(∀ v d,cs[j]? =some d->w.cell? ⟨b,o+j,none⟩=some v->Af w G d v->Af w G c v)->Am w G (cs.set j c) b o
 | [],_,_,_,_,h,_=>by grind
 | d::cs,b,o,0,c,h,hc=>by grind [Am]
 | d::cs,b,o,j+1,c,h,hc=>by simp only [Am]at h;simp only [List.set_cons_succ,Am];exact⟨h.1,Kn h.2 (fun v d hd hv=>hc v d (by simpa using hd) (by rw [show o+(j+1)=o+1+j by omega];exact hv))⟩
section
variable {F:Fr} {st:St} {a:Act} {w w':World} {G G':AJ} {p q:Ah->Bool}
theorem R.abx (h:R F st a w G) {id:Ah} {e:AB} (hl:st.Tz id=some e):e∈st.so/\e.id=id/\E9 id=true/\C2 id=false/\e.pu=true/\Au e.cs=true/\EP w G e/\ ∃ E n len,e.row=some (E,n,len):=by obtain⟨hm,hid,hd⟩:=OV hl;obtain⟨h1,h2⟩:=h.deep e hm;obtain⟨h3,h4,h5⟩:=h2 (by rw [hid];exact hd);refine⟨hm,hid,hd,by grind,h3,h.P_ e hm h3,h5,?_⟩;cases hr:e.row<;>grind
theorem R.inner (h:R F st a w G) {id:Ah} {e:AB} (hl:st.Tz id=some e) {k n len:Nat} {E:TypeId} {cs:List C} (hk:e.cs[k]? =some (.isl E n len cs)):
 Au cs=true/\Ba w G ⟨BL k id,some (E,n,len),cs,true⟩/\ ∃ b v,G.y_ id=some b/\w.cell? ⟨b,k,none⟩=some v/\G.own (BL k id)=some v:=by
 obtain⟨hm,hid,hd,_,_,_,hi,_⟩:=h.abx hl;have:=hi k E n len cs hk;grind
theorem R.ael (h:R F st a w G) {id:Ah} {e:AB} (hl:st.Tz id=some e) {b:Nat} (hb:G.y_ id=some b): ∃ E n len v cap cur,e.row=some (E,n,len)/\e.cs.length=len*n/\G.own id=some v/\v= .slice (some ⟨b,0,none⟩) len cap/\w.heap[b]? =some (.cells cur E (0,0))/\len<=cap/\cap<=maxLen/\cur.size=cap*n/\Am w G e.cs b 0:=by obtain⟨hm,hid,_,_,_,_,_,E,n,len,hr⟩:=h.abx hl;have hE:=h.store e hm;grind [Ba]
theorem I_.aok (h:R F st a w G) (t:I_ F p q G G' w w') {id:Ah} {e:AB} (hl:st.Tz id=some e) (f:AB->Bool) (hf: ∀ d∈st.so,f d=true->d.id ≠ id->p d.id=false/\q d.id=false/\(E9 d.id=true-> ∀ k,p (BL k d.id)=false/\q (BL k d.id)=false))
 {cells:List C} {row:Option (TypeId×Nat×Nat)} (hrs:row.isSome=true) (h1:Ba w' G' ⟨id,row,cells,true⟩) (h2:EP w' G' ⟨id,row,cells,true⟩) (h3:Au cells=true):
 (∀ d∈((st.so.filter f).map (AB.j_ p)).map (aar id row cells),Ba w' G' d)/\(∀ d∈((st.so.filter f).map (AB.j_ p)).map (aar id row cells),Bu w' G' d)/\
 (∀ d∈((st.so.filter f).map (AB.j_ p)).map (aar id row cells),d.pu=true->Au d.cs=true)/\((((st.so.filter f).map (AB.j_ p)).map (aar id row cells)).map (·.id)).Nodup :=by
 obtain⟨hm,hid,hd,hmk,hpu,hpe,hi,E,n,len,hr⟩:=h.abx hl;have key: ∀ d∈((st.so.filter f).map (AB.j_ p)).map (aar id row cells),(d=⟨id,row,cells,true⟩)\/ ∃ x∈st.so,f x=true/\x.id ≠ id/\d=x.j_ p:=by
  intro d hd;simp only [map_map,mem_map,mem_filter,Function.comp]at hd;obtain⟨x,⟨hx,hfx⟩,rfl⟩:=hd;by_cases hxi:x.id=id
  ·have:=h.uniq hx hm (hxi.trans hid.symm);subst this;left;have hk:x.j_ p=x:=by obtain⟨i,r,cs,pu⟩:=x;simp only at hpu;subst hpu;rfl
   grind [D8]
  grind [D7,AB.K_]
 refine⟨fun d hd'=>?_,fun d hd'=>?_,fun d hd'=>?_,?_⟩
 ·rcases key d hd' with rfl | ⟨x,hx,hfx,hxi,rfl⟩
  ·exact h1
  ·obtain⟨k1,k2,_⟩:=hf x hx hfx hxi;exact t.ent h hx k1 k2
 ·rcases key d hd' with rfl | ⟨x,hx,hfx,hxi,rfl⟩
  ·exact⟨hmk,fun _=>⟨rfl,hrs,h2⟩⟩
  ·obtain⟨k1,k2,k3⟩:=hf x hx hfx hxi;exact t.deep h hx k1 k2 k3
 ·rcases key d hd' with rfl | ⟨x,hx,hfx,hxi,rfl⟩
  ·grind
  ·exact Qh (h.P_ x hx)
 ·have:(((st.so.filter f).map (AB.j_ p)).map (aar id row cells)).map (·.id)=(st.so.filter f).map (·.id):=by simp_all [gI,AB.K_]
  rw [this];exact List.Sublist.nodup (by grind [filter_sublist]) h.nodup
theorem Rj (l:List AB):l.map (AB.j_ fun _=>false)=l:=by induction l<;>grind [AB.arp]
end
end Go.PL
namespace Go.PL
open Go Go.RowKit
section
variable {F:Fr} {st:St} {a:Act} {w w':World} {G G':AJ} {p q:Ah->Bool}
theorem Ko (l:List AB):l.filter (fun _=>true)=l:=(by simp_all)
theorem CB {id j:Ah} (h:C2 id=false) (k:Nat):id ≠ BL k j:=fun e=>by rw [e]at h;cases h
theorem Vc (h:R F st a w G) {i0:Ah} (d:AB) (hd:d∈st.so) (hne:d.id ≠ i0) (hmk: ∀ k,E9 d.id=true->BL k d.id ≠ i0):
 (fun _=>false:Ah->Bool) d.id=false/\(d.id==i0)=false/\(E9 d.id=true-> ∀ k,(fun _=>false:Ah->Bool) (BL k d.id)=false/\(BL k d.id==i0)=false):=
 (by grind)
def St.afU (st:St) (id:Ah) (row:Option (TypeId×Nat×Nat)) (cells:List C):St:={st with so:=st.so.map (aar id row cells)}
theorem R.aia (h:R F st a w G) {id:Ah} {e:AB} (hl:st.Tz id=some e) {k n len:Nat} {E:TypeId} {cs:List C} (hk:e.cs[k]? =some (.isl E n len cs)) {b:Nat} (hb:G.y_ (BL k id)=some b)
 {off:Nat} {xs:List C} {vs:List Value} (hx:Ai w G xs vs) (acX:off+xs.length<=cs.length) (hp:Au xs=true):
 ∃ cur T,w.heap[b]? =some (.cells cur T (0,0))/\off+vs.length<=cur.size/\
   R F (st.afU id e.row (e.cs.set k (.isl E n len (cs.take off++xs++cs.drop (off+xs.length))))) a (w.setRow b (cur.toList.take off++vs++cur.toList.drop (off+vs.length)).toArray) G:=by
 obtain⟨hm,hid,hd,hmk,hpu,hpe,hi,E0,n0,ajp,hr⟩:=h.abx hl;obtain⟨hpc,hE,bo,vo,hbo,aco,aaK⟩:=h.inner hl hk;unfold Ba at hE;obtain⟨hcl,v,h1,h2 | ⟨b',cap,cur,e1,e2,e3,e4,e5,e6,e7⟩⟩:=hE
 ·grind
 rw [show (⟨BL k id,some (E,n,len),cs,true⟩:AB).id =BL k id from rfl]at h1 e2;rw [hb]at e2;injection e2 with e2;subst e2;obtain⟨us,r1,r2⟩:=e7.list;simp only at r1 e7 hcl;have hlx:=hx.length;have hlu:=r1.length;have hle:cs.length<=cur.size:=by simp_all [Nat.mul_le_mul_right]
 have arG:=Hx e3 r2;refine⟨cur,E,e3,by omega,?_⟩;have t:=kJ h hb e3 (cur.toList.take off++vs++cur.toList.drop (off+vs.length)).toArray;have aaO:=setRow_heap w b cur (cur.toList.take off++vs++cur.toList.drop (off+vs.length)).toArray E (0,0) e3;have ajA:(us.take off++vs++us.drop (off+vs.length))++cur.toList.drop us.length=(cur.toList.take off++vs++cur.toList.drop (off+vs.length)).toArray.toList :=by grind
 have ajB:=BA aaO ajA;have hl2:Ai w G (cs.take off++xs++cs.drop (off+xs.length)) (us.take off++vs++us.drop (off+vs.length)):=by rw [hlx];exact((r1.take off).append hx).append (r1.drop _)
 have ae4:=Am.aaY (Ai.mono t.keeps _ _ (fun _ _=>⟨rfl,rfl⟩) hl2) ajB;have hlen:(cs.take off++xs++cs.drop (off+xs.length)).length =cs.length:=by simp;omega
 have av_:(cur.toList.take off++vs++cur.toList.drop (off+vs.length)).toArray.size =cur.size:=by simp;omega
 have hpx:Au (cs.take off++xs++cs.drop (off+xs.length))=true:=by grind [BR,Mc,Md]
 have hne:bo ≠ b:=fun q=>CB hmk k (h.inj _ _ bo hbo (by rw [q];exact hb));have hcs: ∀ o,(w.setRow b (cur.toList.take off++vs++cur.toList.drop (off+vs.length)).toArray).cell? ⟨bo,o,none⟩=w.cell? ⟨bo,o,none⟩:=(by grind [aaD,setRow_other]);obtain⟨E1,n1,amK,v1,acy,akS,g1,g2,g3,g4,g5,g6,g7,g8,g9⟩:=h.ael hl hbo;have ac7:Au (e.cs.set k (.isl E n len (cs.take off++xs++cs.drop (off+xs.length))))=true:=by
  rw [B6,all_eq_true]at hpe ⊢;intro c hc;rcases List.mem_or_eq_of_mem_set hc with q | q
  ·grind
  ·rw [q];rfl
 have afY:Ba (w.setRow b (cur.toList.take off++vs++cur.toList.drop (off+vs.length)).toArray) G ⟨id,e.row,e.cs.set k (.isl E n len (cs.take off++xs++cs.drop (off+xs.length))),true⟩:=by unfold Ba;rw [g1];refine⟨by grind,v1,g3, .inr ⟨bo,acy,akS,g4,hbo,by grind [setRow_other],g6,g7,g8,?_⟩⟩;refine Kn (Am.mono t.keeps _ _ _ (fun _ _=>⟨rfl,rfl⟩) hcs g9) (fun u d hd _ hrd=>?_);grind [Af]
 have hin:EP (w.setRow b (cur.toList.take off++vs++cur.toList.drop (off+vs.length)).toArray) G ⟨id,e.row,e.cs.set k (.isl E n len (cs.take off++xs++cs.drop (off+xs.length))),true⟩:=by
  intro j E2 n2 abU cs2 hj;simp only [getElem?_set]at hj;split at hj
  ·rename_i hkj;subst hkj;split at hj
   ·injection hj with hj;injection hj with q1 q2 q3 q4;subst q1 q2 q3 q4;refine⟨hpx,?_,bo,vo,hbo,by grind,aaK⟩;unfold Ba;exact⟨by grind,v,h1, .inr ⟨b,cap,_,e1,hb,aaO,e4,e5,by grind,ae4⟩⟩
   ·cases hj
  ·rename_i hkj;obtain⟨k1,k2,b2,v2,k3,k4,k5⟩:=h.inner hl hj;refine⟨k1,Cq t.keeps (fun _ _=>⟨rfl,rfl⟩) ⟨rfl,rfl⟩ (fun b3 hb3=>setRow_other w b b3 _ (fun q=>?_)) k2,b2,v2,k3,?_,k5⟩
   ·have:=h.inj _ _ b3 hb3 (by rw [q];exact hb);grind [Q4]
   grind
 have aau:=t.aok h hl (fun _=>true) (fun d hd' _ ad4=>Vc h d hd' (fun q2=>CB (h.deep d hd').1 k q2) (by grind [Q4])) (by rw [g1];rfl) afY hin ac7;rw [Ko,Rj]at aau;exact t.kept h _ aau.1 aau.2.1 aau.2.2.1 aau.2.2.2
def ov:C->Bool
 | .isl .. =>false
 | _=>true
theorem R.ady (h:R F st a w G) {id:Ah} {e:AB} (hl:st.Tz id=some e) {b:Nat} (hb:G.y_ id=some b)
 {off:Nat} {xs:List C} {vs:List Value} (hx:Ai w G xs vs) (acX:off+xs.length<=e.cs.length) (hp:Au xs=true) (hn:xs.all ov=true):
 ∃ cur T,w.heap[b]? =some (.cells cur T (0,0))/\off+vs.length<=cur.size/\
   R F (st.afU id e.row (e.cs.take off++xs++e.cs.drop (off+xs.length))) a (w.setRow b (cur.toList.take off++vs++cur.toList.drop (off+vs.length)).toArray) G:=by
 obtain⟨hm,hid,hd,hmk,hpu,hpe,hi,E0,n0,ajp,hr⟩:=h.abx hl;obtain⟨E,n,len,v,cap,cur,g1,g2,g3,g4,g5,g6,g7,g8,g9⟩:=h.ael hl hb;obtain⟨us,r1,r2⟩:=g9.list;have hlx:=hx.length;have hlu:=r1.length;have hle:e.cs.length<=cur.size:=by simp_all [Nat.mul_le_mul_right]
 have arG:=Hx g5 r2;refine⟨cur,E,g5,by omega,?_⟩;have t:=kJ h hb g5 (cur.toList.take off++vs++cur.toList.drop (off+vs.length)).toArray;have aaO:=setRow_heap w b cur (cur.toList.take off++vs++cur.toList.drop (off+vs.length)).toArray E (0,0) g5;have ajA:(us.take off++vs++us.drop (off+vs.length))++cur.toList.drop us.length=(cur.toList.take off++vs++cur.toList.drop (off+vs.length)).toArray.toList :=by grind
 have ajB:=BA aaO ajA;have hl2:Ai w G (e.cs.take off++xs++e.cs.drop (off+xs.length)) (us.take off++vs++us.drop (off+vs.length)):=by rw [hlx];exact((r1.take off).append hx).append (r1.drop _)
 have ae4:=Am.aaY (Ai.mono t.keeps _ _ (fun _ _=>⟨rfl,rfl⟩) hl2) ajB;have hlen:(e.cs.take off++xs++e.cs.drop (off+xs.length)).length =e.cs.length:=by simp;omega
 have av_:(cur.toList.take off++vs++cur.toList.drop (off+vs.length)).toArray.size =cur.size:=by simp;omega
 have hpx:Au (e.cs.take off++xs++e.cs.drop (off+xs.length))=true:=by grind [BR,Mc,Md]
 have afY:Ba (w.setRow b (cur.toList.take off++vs++cur.toList.drop (off+vs.length)).toArray) G ⟨id,e.row,e.cs.take off++xs++e.cs.drop (off+xs.length),true⟩:=by unfold Ba;rw [g1];exact⟨by grind,v,g3, .inr ⟨b,cap,_,g4,hb,aaO,g6,g7,by grind,ae4⟩⟩
 have hin:EP (w.setRow b (cur.toList.take off++vs++cur.toList.drop (off+vs.length)).toArray) G ⟨id,e.row,e.cs.take off++xs++e.cs.drop (off+xs.length),true⟩:=by
  intro j E2 n2 abU cs2 hj;simp only at hj;have hj2:(j<off\/off+xs.length<=j)/\e.cs[j]? =some (.isl E2 n2 abU cs2):=by
   rw [append_assoc]at hj;have htl:(e.cs.take off).length =off:=by grind
   by_cases q1:j<off
   ·grind
   ·rw [getElem?_append_right (by omega),htl]at hj;by_cases q2:j<off+xs.length
    ·rw [List.getElem?_append_left (by omega)]at hj;have:=all_eq_true.1 hn _ (List.mem_of_getElem? hj);cases this
    grind
  obtain⟨k1,k2,b2,v2,k3,k4,k5⟩:=h.inner hl hj2.2;rw [hb]at k3;injection k3 with k3;subst k3;refine⟨k1,Cq t.keeps (fun _ _=>⟨rfl,rfl⟩) ⟨rfl,rfl⟩ (fun b3 hb3=>setRow_other w b b3 _ (fun q=>?_)) k2,b,v2,hb,?_,k5⟩
  ·exact CB hmk j (h.inj _ _ b hb (by rw [<-q];exact hb3))
  ·have hjl:j<e.cs.length:=(by grind);simp only [World.cell?,aaO];simp only [World.cell?,g5]at k4;have hold:cur.toList[j]? =some v2:=by grind
   have htl:(cur.toList.take off).length =off:=by grind
   have:(cur.toList.take off++vs++cur.toList.drop (off+vs.length))[j]? =some v2:=by
    rw [append_assoc];rcases hj2.1 with q1 | q1
    ·grind
    ·rw [getElem?_append_right (by omega),htl,getElem?_append_right (by omega),List.getElem?_drop];grind
   grind
 have aau:=t.aok h hl (fun _=>true) (fun d hd' _ ad4=>Vc h d hd' ad4 (by grind [CB])) (by rw [g1];rfl) afY hin hpx;rw [Ko,Rj]at aau;exact t.kept h _ aau.1 aau.2.1 aau.2.2.1 aau.2.2.2
theorem Gi {id i:Ah} (h:D9 id i=true):C2 i=true:=by
 match i,h with
 | m::k::j,h=>
   simp only [D9,and_eq_true]at h;exact h.1
theorem rT {id i:Ah} (h:D9 id i=true): ∃ k,i=BL k id:=by
 match i,h with
 | m::k::j,h=>
   simp only [D9,and_eq_true,beq_iff_eq]at h;have h1:=eq_of_beq_eq_true h.1;subst h1;rw [h.2];exact⟨k,rfl⟩
def pD (r id i:Ah):Bool:=i==r||D9 id i
theorem wF (h:R F st a w G) {r id:Ah} (hr:C2 r=false) {d:AB} (hd:d∈st.so) (h1:d.id ≠ r) (h2:d.id ≠ id):pD r id d.id=false/\(E9 d.id=true-> ∀ k,pD r id (BL k d.id)=false/\(fun _=>false:Ah->Bool) (BL k d.id)=false):=by
 refine⟨?_,fun _ k=>⟨?_,rfl⟩⟩
 ·unfold pD;rw [show (d.id==r)=false by simpa using h1,Bool.false_or];cases hq:D9 id d.id with
  | false=>rfl
  | true=>
    have:=Gi hq;rw [(h.deep d hd).1]at this;cases this
 ·unfold pD;rw [show (BL k d.id==r)=false by simpa using (CB hr k).symm,Bool.false_or,Il];grind
theorem R.apz (h:R F st a w G) {id r:Ah} {e er:AB} (hl:st.Tz id=some e) (hr:st.look r=some er) {E:TypeId} {n len:Nat} (Tc:er.row=some (E,n,len)) (hpr:er.pu=true)
 {k b:Nat} {v:Value} (hb:G.y_ id=some b) (hc:w.cell? ⟨b,k,none⟩=some v) (ho:G.own r=some v) (hk:k<e.cs.length):
 ∃ G',R F (st.j_ (pD r id) (((st.so.filter (fun d=>d.id != r)).map (AB.j_ (pD r id))).map (aar id e.row (e.cs.set k (.isl E n len er.cs))))) a w G'/\G'.own id=G.own id/\G'.y_ id=G.y_ id/\ ∀ i,pD r id i=false->G'.y_ i=G.y_ i/\G'.own i=G.own i:=by
 obtain⟨hm,hid,hd,hmk,hpu,hpe,hi,E0,n0,ajp,hr0⟩:=h.abx hl;obtain⟨hmr,ahT⟩:=Bi hr;have aoi:=Fp hr;have amS:C2 r=false:=by rw [<-ahT];exact(h.deep er hmr).1
 have amP:r ≠ id:=(by grind);have hpc:=h.P_ er hmr hpr;let G':AJ:=⟨fun i=>if i=r then none else if i=BL k id then G.y_ r else G.y_ i,fun i=>if i=r then none else if i=BL k id then G.own r else G.own i,fun b=>F.av b\/ ∃ i,(if i=r then none else if i=BL k id then G.y_ r else G.y_ i)=some b⟩;have hag: ∀ i,pD r id i=false->G'.y_ i=G.y_ i/\G'.own i=G.own i:=by intro i hpi;simp only [pD,or_eq_false_iff,beq_eq_false_iff_ne]at hpi;have h2:i ≠ BL k id:=(by grind [Il]);grind
 have t:I_ F (pD r id) (fun _=>false) G G' w w:=G6 h G' rfl hag (by grind) (fun i j b hib hjb=>by
  simp only [G']at hib hjb;split at hib
  ·cases hib
  ·rename_i q1;split at hjb
   ·cases hjb
   ·rename_i q2;split at hib<;>split at hjb
    ·simp_all
    ·exact absurd (h.inj _ _ b hjb hib) q2
    ·exact absurd (h.inj _ _ b hib hjb) q1
    ·exact h.inj _ _ b hib hjb)
 have hne:id ≠ BL k id:=CB hmk k;have gid:G'.y_ id=G.y_ id/\G'.own id=G.own id:=(by grind);have gk:G'.y_ (BL k id)=G.y_ r/\G'.own (BL k id)=G.own r:=by have:BL k id ≠ r:=(CB amS k).symm;grind
 have gj: ∀ j,j ≠ k->G'.y_ (BL j id)=G.y_ (BL j id)/\G'.own (BL j id)=G.own (BL j id):=by intro j hj;have h1:BL j id ≠ r:=(CB amS j).symm;have h2:BL j id ≠ BL k id:=fun q=>hj (Q4 q).1;grind
 obtain⟨E1,n1,amK,v1,acy,akS,g1,g2,g3,g4,g5,g6,g7,g8,g9⟩:=h.ael hl hb;have ac7:Au (e.cs.set k (.isl E n len er.cs))=true:=by
  rw [B6,all_eq_true]at hpe ⊢;intro c hc;rcases List.mem_or_eq_of_mem_set hc with q | q
  ·grind
  ·rw [q];rfl
 have hno: ∀ cs:List C,Au cs=true->Jd (fun i=>BO i cs=true) G G':=fun cs hp i hi'=>absurd (show BO i cs=true from hi') (by rw [AU i cs hp];simp);have afY:Ba w G' ⟨id,e.row,e.cs.set k (.isl E n len er.cs),true⟩:=by unfold Ba;rw [g1];refine⟨by grind,v1,by grind, .inr ⟨b,acy,akS,g4,by grind,g5,g6,g7,g8,?_⟩⟩;refine Kn (Am.mono t.keeps _ _ _ (hno _ hpe) (fun _=>rfl) g9) (fun u d _ _ hrd=>?_);simp only [Af];exact hrd.one
 have hin:EP w G' ⟨id,e.row,e.cs.set k (.isl E n len er.cs),true⟩:=by
  intro j E2 n2 abU cs2 hj;simp only [getElem?_set]at hj;split at hj
  ·rename_i hkj;subst hkj
   ·injection hj with hj;injection hj with q1 q2 q3 q4;subst q1 q2 q3 q4;refine⟨hpc,?_,b,v,by grind,hc,by grind⟩;have hE:=h.store er hmr;unfold Ba at hE ⊢;rw [Tc]at hE;obtain⟨c1,v2,c2,c3⟩:=hE;refine⟨c1,v2,by grind,?_⟩;rcases c3 with ⟨p,c3,c4,c5⟩ | ⟨b',cap,cur,e1,e2,e3,e4,e5,e6,e7⟩
    ·grind
    ·exact .inr ⟨b',cap,cur,e1,by grind,e3,e4,e5,e6,Am.mono t.keeps _ _ _ (hno _ hpc) (fun _=>rfl) e7⟩
  ·rename_i hkj;obtain⟨k1,k2,b2,v2,k3,k4,k5⟩:=h.inner hl hj;have gjj:=gj j (fun q=>hkj q.symm);exact⟨k1,Cq t.keeps (hno _ k1) gjj (fun _ _=>rfl) k2,b2,v2,by grind,k4,by grind⟩
 have aau:=t.aok h hl (fun d=>d.id != r) (fun d hd' hf ad4=>by have:=wF h (id:=id) amS hd' (by simpa using hf) ad4;grind) (by rw [g1];rfl) afY hin ac7
 exact⟨G',t.agr h _ aau.1 aau.2.1 aau.2.2.1 aau.2.2.2,gid.2,gid.1,hag⟩
theorem R.asj (h:R F st a w G) {id r:Ah} {e er:AB} (hl:st.Tz id=some e) (hr:st.look r=some er) {E:TypeId} {n len:Nat} (Tc:er.row=some (E,n,len)) (hpr:er.pu=true)
 {k b:Nat} {v:Value} (hb:G.y_ id=some b) (hc:w.cell? ⟨b,k,none⟩=some v) (ho:G.own r=some v) (hk:k<e.cs.length):
 ∃ G',R F (st.j_ (pD r id) (((st.so.filter (fun d=>d.id != r)).map (AB.j_ (pD r id))).map (aar id e.row (e.cs.set k (.isl E n len er.cs))))) a w G'/\G'.own id=G.own id:=by
 obtain⟨G',a,b,_⟩:=h.apz hl hr Tc hpr hb hc ho hk;grind
theorem R.extract (h:R F st a w G) {id r:Ah} {e:AB} (hl:st.Tz id=some e) {k n len:Nat} {E:TypeId} {cs:List C} (hk:e.cs[k]? =some (.isl E n len cs)) (amS:C2 r=false) (aoi:E9 r=false):
 ∃ G',R F (st.j_ (pD r id) (⟨r,some (E,n,len),cs,true⟩::((st.so.filter (fun d=>d.id != r)).map (AB.j_ (pD r id))).map (aar id e.row (e.cs.set k .any)))) a w G'/\
   ∃ b v,G.y_ id=some b/\w.cell? ⟨b,k,none⟩=some v/\G'.own r=some v/\v.oneCell'=true:=by
 obtain⟨hm,hid,hd,hmk,hpu,hpe,hi,E0,n0,ajp,hr0⟩:=h.abx hl;obtain⟨hpc,hE,b,v,hb,hc,ho⟩:=h.inner hl hk;have amP:r ≠ id:=(by grind);let G':AJ:=⟨fun i=>if i=r then G.y_ (BL k id)else if i=BL k id then none else G.y_ i,fun i=>if i=r then G.own (BL k id)else if i=BL k id then none else G.own i,fun b=>F.av b\/ ∃ i,(if i=r then G.y_ (BL k id)else if i=BL k id then none else G.y_ i)=some b⟩;have hag: ∀ i,pD r id i=false->G'.y_ i=G.y_ i/\G'.own i=G.own i:=by intro i hpi;simp only [pD,or_eq_false_iff,beq_eq_false_iff_ne]at hpi;have h2:i ≠ BL k id:=(by grind [Il]);grind
 have t:I_ F (pD r id) (fun _=>false) G G' w w:=G6 h G' rfl hag (by grind) (fun i j b hib hjb=>by
  simp only [G']at hib hjb;split at hib<;>split at hjb
  ·simp_all
  ·split at hjb
   ·cases hjb
   ·rename_i q2 q3;exact absurd (h.inj _ _ b hjb hib) q3
  ·split at hib
   ·cases hib
   ·rename_i q3;exact absurd (h.inj _ _ b hib hjb) q3
  ·split at hib
   ·cases hib
   ·split at hjb
    ·cases hjb
    ·exact h.inj _ _ b hib hjb)
 have hne:id ≠ BL k id:=CB hmk k;have gid:G'.y_ id=G.y_ id/\G'.own id=G.own id:=(by grind);have gr:G'.y_ r=G.y_ (BL k id)/\G'.own r=G.own (BL k id):=(by grind);have gj: ∀ j,j ≠ k->G'.y_ (BL j id)=G.y_ (BL j id)/\G'.own (BL j id)=G.own (BL j id):=by intro j hj;have h1:BL j id ≠ r:=(CB amS j).symm;have h2:BL j id ≠ BL k id:=fun q=>hj (Q4 q).1;grind
 obtain⟨E1,n1,amK,v1,acy,akS,g1,g2,g3,g4,g5,g6,g7,g8,g9⟩:=h.ael hl hb;have ac7:Au (e.cs.set k .any)=true:=by
  rw [B6,all_eq_true]at hpe ⊢;intro c hc;rcases List.mem_or_eq_of_mem_set hc with q | q
  ·grind
  ·rw [q];rfl
 have hno: ∀ cs:List C,Au cs=true->Jd (fun i=>BO i cs=true) G G':=fun cs hp i hi'=>absurd (show BO i cs=true from hi') (by rw [AU i cs hp];simp);have afY:Ba w G' ⟨id,e.row,e.cs.set k .any,true⟩:=by unfold Ba;rw [g1];refine⟨by grind,v1,by grind, .inr ⟨b,acy,akS,g4,by grind,g5,g6,g7,g8,?_⟩⟩;refine Kn (Am.mono t.keeps _ _ _ (hno _ hpe) (fun _=>rfl) g9) (fun u d _ _ hrd=>?_);grind [Af]
 have hin:EP w G' ⟨id,e.row,e.cs.set k .any,true⟩:=by
  intro j E2 n2 abU cs2 hj;simp only [getElem?_set]at hj;split at hj
  ·grind
  ·rename_i hkj;obtain⟨k1,k2,b2,v2,k3,k4,k5⟩:=h.inner hl hj;have gjj:=gj j (fun q=>hkj q.symm);exact⟨k1,Cq t.keeps (hno _ k1) gjj (fun _ _=>rfl) k2,b2,v2,by grind,k4,by grind⟩
 have aau:=t.aok h hl (fun d=>d.id != r) (fun d hd' hf ad4=>by have:=wF h (id:=id) amS hd' (by simpa using hf) ad4;grind) (by rw [g1];rfl) afY hin ac7
 have adj:v.oneCell'=true:=by unfold Ba at hE;obtain⟨_,v2,c2,c3⟩:=hE;rw [show (⟨BL k id,some (E,n,len),cs,true⟩:AB).id =BL k id from rfl,ho]at c2;injection c2 with c2;subst c2;rcases c3 with ⟨p,rfl,_⟩ | ⟨b',cap,cur,rfl,_⟩<;>rfl
 refine⟨G',t.agr h _ ?_ ?_ ?_ ?_,b,v,hb,hc,by grind,adj⟩
 ·intro x hx;rcases mem_cons.1 hx with rfl | hx
  ·unfold Ba at hE ⊢;obtain⟨c1,v2,c2,c3⟩:=hE;refine⟨c1,v2,by grind,?_⟩;rcases c3 with ⟨p,c3,c4,c5⟩ | ⟨b',cap,cur,e1,e2,e3,e4,e5,e6,e7⟩
   ·grind
   ·exact .inr ⟨b',cap,cur,e1,by grind,e3,e4,e5,e6,Am.mono t.keeps _ _ _ (hno _ hpc) (fun _=>rfl) e7⟩
  grind
 ·intro x hx;rcases mem_cons.1 hx with rfl | hx
  all_goals grind [Bu.asP]
 ·grind
 ·rw [map_cons];refine nodup_cons.2 ⟨?_,aau.2.2.2⟩;simp only [map_map,mem_map,mem_filter,Function.comp,gI,AB.K_,not_exists,not_and];grind
theorem R.apt (h:R F st a w G) {r id:Ah} {er:AB} (hr:st.look r=some er) {E:TypeId} {n len:Nat} (Tc:er.row=some (E,n,len)) (hpr:er.pu=true) (hn:er.cs.all ov=true) (hd:E9 id=true) (hmk:C2 id=false):
 ∃ G',R F (st.j_ (fun i=>i==r||(i==id||D9 id i)) (⟨id,some (E,n,len),er.cs,true⟩::((st.so.filter (fun d=>d.id != r&&d.id != id)).map (AB.j_ (fun i=>i==r||(i==id||D9 id i)))))) a w G'/\G'.own id=G.own r/\ ∀ i,i ≠ r->i ≠ id->G'.own i=G.own i:=by
 obtain⟨hmr,ahT⟩:=Bi hr;have aoi:=Fp hr;have amS:C2 r=false:=by rw [<-ahT];exact(h.deep er hmr).1
 have amP:r ≠ id:=(by grind);have hpc:=h.P_ er hmr hpr;let G':AJ:=⟨fun i=>if i=r then none else if i=id then G.y_ r else G.y_ i,fun i=>if i=r then none else if i=id then G.own r else G.own i,fun b=>F.av b\/ ∃ i,(if i=r then none else if i=id then G.y_ r else G.y_ i)=some b⟩;have t:I_ F (fun i=>i==r||(i==id||D9 id i)) (fun _=>false) G G' w w:=G6 h G' rfl (by grind) (by grind) (fun i j b hib hjb=>by
  simp only [G']at hib hjb;split at hib
  ·cases hib
  ·rename_i q1;split at hjb
   ·cases hjb
   ·rename_i q2;split at hib<;>split at hjb
    ·simp_all
    ·exact absurd (h.inj _ _ b hjb hib) q2
    ·exact absurd (h.inj _ _ b hib hjb) q1
    ·exact h.inj _ _ b hib hjb)
 have gid:G'.y_ id=G.y_ r/\G'.own id=G.own r:=(by grind);have hno: ∀ cs:List C,Au cs=true->Jd (fun i=>BO i cs=true) G G':=fun cs hp i hi'=>absurd (show BO i cs=true from hi') (by rw [AU i cs hp];simp);have hp: ∀ d∈st.so,d.id ≠ r->d.id ≠ id->(fun i=>i==r||(i==id||D9 id i)) d.id=false/\(E9 d.id=true-> ∀ k,(fun i=>i==r||(i==id||D9 id i)) (BL k d.id)=false/\(fun _=>false:Ah->Bool) (BL k d.id)=false):=by
  intro d hd' h1 h2;have hof:D9 id d.id=false:=by
   cases hq:D9 id d.id with
   | false=>rfl
   | true=>
     have:=Gi hq;rw [(h.deep d hd').1]at this;cases this
  refine⟨by grind,fun _ k=>⟨?_,rfl⟩⟩;grind [CB,Il]
 refine⟨G',t.agr h _ ?_ ?_ ?_ ?_,gid.2,(by grind)⟩
 ·intro x hx;rcases mem_cons.1 hx with rfl | hx
  ·have hE:=h.store er hmr;unfold Ba at hE ⊢;rw [Tc]at hE;obtain⟨c1,v2,c2,c3⟩:=hE;refine⟨c1,v2,by grind,?_⟩;rcases c3 with ⟨p,c3,c4,c5⟩ | ⟨b',cap,cur,e1,e2,e3,e4,e5,e6,e7⟩
   ·grind
   ·exact .inr ⟨b',cap,cur,e1,by grind,e3,e4,e5,e6,Am.mono t.keeps _ _ _ (hno _ hpc) (fun _=>rfl) e7⟩
  ·simp only [mem_map,mem_filter,and_eq_true,bne_iff_ne]at hx;obtain⟨y,⟨hy,h1,h2⟩,rfl⟩:=hx;exact t.ent h hy (hp y hy h1 h2).1 rfl
 ·intro x hx;rcases mem_cons.1 hx with rfl | hx
  ·refine⟨hmk,fun _=>⟨rfl,rfl,fun k E2 n2 abU cs2 hk=>?_⟩⟩;have:=all_eq_true.1 hn _ (List.mem_of_getElem? hk);cases this
  ·simp only [mem_map,mem_filter,and_eq_true,bne_iff_ne]at hx;obtain⟨y,⟨hy,h1,h2⟩,rfl⟩:=hx;exact t.deep h hy (hp y hy h1 h2).1 rfl (hp y hy h1 h2).2
 ·intro x hx;rcases mem_cons.1 hx with rfl | hx
  ·grind
  ·simp only [mem_map,mem_filter]at hx;obtain⟨y,⟨hy,_⟩,rfl⟩:=hx;exact Qh (h.P_ y hy)
 ·rw [map_cons];refine nodup_cons.2 ⟨?_,?_⟩
  ·simp only [map_map,mem_map,mem_filter,Function.comp,AB.K_,not_exists,not_and,and_eq_true,bne_iff_ne];grind
  ·simp only [map_map,Function.comp_def,AB.K_];exact List.Sublist.nodup (by grind [filter_sublist]) h.nodup
theorem R.ar0 (h:R F st a w G) {r id:Ah} {er:AB} (hr:st.look r=some er) {E:TypeId} {n len:Nat} (Tc:er.row=some (E,n,len)) (hpr:er.pu=true) (hn:er.cs.all ov=true) (hd:E9 id=true) (hmk:C2 id=false):
 ∃ G',R F (st.j_ (fun i=>i==r||(i==id||D9 id i)) (⟨id,some (E,n,len),er.cs,true⟩::((st.so.filter (fun d=>d.id != r&&d.id != id)).map (AB.j_ (fun i=>i==r||(i==id||D9 id i)))))) a w G'/\G'.own id=G.own r:=by
 obtain⟨G',q1,q2,_⟩:=h.apt hr Tc hpr hn hd hmk;grind
theorem wG (h:R F st a w G) (id:Ah) (nb:Option Nat) (nv:Option Value) (ho:NE w w') (hs:w.heap.size<=w'.heap.size) (ab5: ∀ b,b<w.heap.size->(G.y_ id ≠ some b)->w'.heap[b]? =w.heap[b]?)
 (arQ: ∀ b,b<F.w0.heap.size-> ¬F.old b->w'.heap[b]? =w.heap[b]?)
 (hn: ∀ b,nb=some b->(w.heap.size<=b\/(G.y_ id=some b/\B7 w w' b))/\b<w'.heap.size):I_ F (· ==id) (· ==id) G (B0 F G id nb nv) w w' where
 agree:=(by grind [B0])
 same:=fun i b hi hb=>ab5 b (h.lt i b hb) (fun q=>by have:=h.inj i id b hb q;grind)
 keeps:=h.keeps id nb nv hs ab5 (by grind)
 outer:=ho
 ext:=arQ
 wr:=fun b=>Iff.rfl
 inj:=by
  intro i j b hi hj;simp only [B0]at hi hj;split at hi<;>split at hj
  ·simp_all
  ·rename_i q1 q2;rcases (hn b hi).1 with q | q
   ·exact absurd (h.lt j b hj) (by omega)
   ·exact absurd (h.inj j id b hj q.1) q2
  ·rename_i q1 q2;rcases (hn b hj).1 with q | q
   ·exact absurd (h.lt i b hi) (by omega)
   ·exact absurd (h.inj i id b hi q.1) q1
  ·exact h.inj i j b hi hj
 lt:=by
  intro i b hi;simp only [B0]at hi;split at hi
  ·grind
  ·exact Nat.lt_of_lt_of_le (h.lt i b hi) hs
 new:=by
  intro i b hi;simp only [B0]at hi;split at hi
  ·rcases (hn b hi).1 with q | q
   ·grind
   ·exact h.new id b q.1
  ·exact h.new i b hi
theorem R.ag3 (h:R F st a w G) {id:Ah} {e:AB} (hl:st.Tz id=some e) {E n len m:Nat} (Tc:e.row=some (E,n,len))
 {v v':Value} {xs us:List Value} {cs:List C} (hob:v.ownBlock=G.y_ id) (h1:Ai w G e.cs xs) (h2:Ai w G cs us) (hxc: ∀ b j u,G.y_ id=some b->xs[j]? =some u->w.cell? ⟨b,j,none⟩=some u)
 (hold:w.ownsRow 0 E n v len xs) (aaO:w'.ownsRow 0 E n v' (len+m) (xs++us)) (hg:w.grownBy w' v.ownBlock) (hfr:v'.ownBlock=v.ownBlock\/ ∀ b,v'.ownBlock=some b->w.heap.size<=b)
 (hp:Au cs=true) (hn:cs.all ov=true):
 R F (st.j_ (· ==id) ((st.so.map (AB.j_ (· ==id))).map (aar id (some (E,n,len+m)) (e.cs++cs)))) a w' (B0 F G id v'.ownBlock (some v'))/\v'.oneCell'=true:=by
 obtain⟨hm,hid,hd,hmk,hpu,hpe,hi,_⟩:=h.abx hl;have ab5: ∀ b,b<w.heap.size->G.y_ id ≠ some b->w'.heap[b]? =w.heap[b]? :=fun b hb hne=>hg.block b hb (by grind);have hnb: ∀ b,v'.ownBlock=some b->w.heap.size<=b\/(G.y_ id=some b/\B7 w w' b):=by
  intro b hb;rcases hfr with q | q
  ·refine .inr ⟨by grind,?_⟩;have hb2:v.ownBlock=some b:=by grind
   intro cur T fz hc;rcases aaO.2 with ⟨r,_⟩ | ⟨g,cap,adS,r,_,r2,_⟩
   ·rw [r]at hb;cases hb
   ·rw [r]at hb;simp only [Value.ownBlock,Option.some.injEq]at hb;subst hb;rcases hold.2 with ⟨r3,_⟩ | ⟨g3,azN,azL,r3,_,r4,_⟩
    all_goals grind [Value.ownBlock]
  grind
 have hlt: ∀ b,v'.ownBlock=some b->b<w'.heap.size:=fun b hb=>(aaO.lt b hb).2;have adj:v'.oneCell'=true:=by rcases aaO.2 with ⟨q,_⟩ | ⟨g,cap,cur,q,_⟩<;>rw [q]<;>rfl
 have t:=wG h id v'.ownBlock (some v') ⟨hg.os,hg.tape,hg.output⟩ hg.size ab5 (fun b hb auk=>by
  refine ab5 b (Nat.lt_of_lt_of_le hb h.L_) (fun q=>?_);rcases h.new id b q with q2 | q2
  all_goals grind) (by grind)
 have hpx:Au (e.cs++cs)=true:=by rw [BR,hpe,hp];rfl
 have hl1:=h1.length;have hl2:=h2.length;have hln:=aaO.1;have hno: ∀ cs:List C,Au cs=true->Jd (fun i=>BO i cs=true) G (B0 F G id v'.ownBlock (some v')):=fun cs hp i hi'=>absurd (show BO i cs=true from hi') (by rw [AU i cs hp];simp);have gid:(B0 F G id v'.ownBlock (some v')).y_ id=v'.ownBlock/\(B0 F G id v'.ownBlock (some v')).own id=some v':=by simp [B0]
 have gj: ∀ j,(B0 F G id v'.ownBlock (some v')).y_ (BL j id)=G.y_ (BL j id)/\(B0 F G id v'.ownBlock (some v')).own (BL j id)=G.own (BL j id):=fun j=>t.agree _ (by grind [CB]);have afY:Ba w' (B0 F G id v'.ownBlock (some v')) ⟨id,some (E,n,len+m),e.cs++cs,true⟩:=by
  unfold Ba;refine⟨by grind,v',gid.2,?_⟩;rcases aaO.2 with ⟨q,h0⟩ | ⟨g,cap,cur,q,_,q2,q3,q4,q5,q6⟩
  ·exact .inl ⟨none,q,h0,by rw [gid.1,q];rfl⟩
  ·refine .inr ⟨g,cap,cur,q,by rw [gid.1,q];rfl,q2,q3,q4,q5,?_⟩;refine Am.aaY (vs:=xs++us) (Ai.mono t.keeps _ _ (hno _ hpx) (h1.append h2)) ?_;grind [BA,take_append_drop]
 have hin:EP w' (B0 F G id v'.ownBlock (some v')) ⟨id,some (E,n,len+m),e.cs++cs,true⟩:=by
  intro j E2 n2 abU cs2 hj;simp only at hj;have hj2:e.cs[j]? =some (.isl E2 n2 abU cs2):=by
   by_cases q:j<e.cs.length
   ·grind
   ·rw [getElem?_append_right (by omega)]at hj;have:=all_eq_true.1 hn _ (List.mem_of_getElem? hj);cases this
  have hjl:j<e.cs.length:=(by grind);obtain⟨k1,k2,b2,v2,k3,k4,k5⟩:=h.inner hl hj2;have hxj:xs[j]? =some v2:=by grind
  refine⟨k1,Cq t.keeps (hno _ k1) (gj j) (fun b hb=>ab5 b (h.lt _ b hb) (fun q=>CB hmk j (h.inj _ _ b q hb))) k2,?_⟩;rcases aaO.2 with ⟨q,h0⟩ | ⟨g,cap,cur,q,_,q2,q3,q4,q5,q6⟩
  ·grind
  ·refine⟨g,v2,by rw [gid.1,q];rfl,?_,by grind⟩;have hr:=BA q2 (us:=xs++us) (rest:=cur.toList.drop ((len+m)*n)) (by rw [<-q6,take_append_drop]);have:=hr j v2 (by grind);grind
 have aau:=t.aok h hl (fun _=>true) (by grind [CB]) rfl afY hin hpx;rw [Ko]at aau;exact⟨t.agr h _ aau.1 aau.2.1 aau.2.2.1 aau.2.2.2,adj⟩
def Pr:C->C
 | .isl _ _ len cs=> .sl len cs
 | c=>c
def pF (id i:Ah):Bool:=i==id||D9 id i
def TG (id:Ah) (len:Nat) (cells:List C):C->C
 | .n_ i=>match i==id with
   | true=> .sl len cells
   | false=>Cj (pF id) (.n_ i)
 | c=>Cj (pF id) c
def Ps (id:Ah) (len:Nat) (cells:List C):V->V
 | .c x=> .c (TG id len cells x)
 | .agg cs=> .agg (cs.map (TG id len cells))
 | v=>Bv (pF id) v
def AB.frD (id:Ah) (len:Nat) (cells:List C) (e:AB):AB:=match e with
 | ⟨i,r,cs,true⟩=>⟨i,r,cs,true⟩
 | ⟨i,r,cs,false⟩=>⟨i,r,cs.map (TG id len cells),false⟩
def St.frD (st:St) (id:Ah) (len:Nat) (cells:List C):St:={tm:=st.tm.map (Ps id len cells),so:=(st.so.filter (fun d=>d.id != id)).map (AB.frD id len cells),gh:=st.gh.map (Ps id len cells),pre:=st.pre}
theorem W0 {id:Ah} {len:Nat} {cells:List C} {c:C} (h: ∀ i,c= .n_ i->i ≠ id):TG id len cells c=Cj (pF id) c:=by
 cases c<;>simp only [TG]
 grind
theorem rU {id:Ah} {len:Nat} {cells:List C}:TG id len cells (.n_ id)= .sl len cells:=by simp only [TG,beq_self_eq_true]
theorem XN {id:Ah} {len:Nat} {cells:List C} (hk:Cf G G' w w') (ha: ∀ i,pF id i=false->G'.y_ i=G.y_ i/\G'.own i=G.own i) (ho: ∀ v,G.own id=some v->Af w' G' (.sl len cells) v) {c:C} {v:Value} (h:Af w G c v):Af w' G' (TG id len cells c) v:=by
 by_cases hc:c= .n_ id
 ·grind [rU,Af]
 ·rw [W0 (fun i q hi=>hc (by rw [q,hi]))];exact Af.mono hk _ _ (fun i hi=>ha i (XK hi)) (XM h)
theorem kK {id:Ah} {len:Nat} {cells:List C} (hk:Cf G G' w w') (ha: ∀ i,pF id i=false->G'.y_ i=G.y_ i/\G'.own i=G.own i) (ho: ∀ v,G.own id=some v->Af w' G' (.sl len cells) v): ∀ {cs:List C} {vs:List Value},Ai w G cs vs->Ai w' G' (cs.map (TG id len cells)) vs
 | [],[],_=>by simp [Ai]
 | [],_::_,h=>by simp [Ai]at h
 | _::_,[],h=>by simp [Ai]at h
 | c::cs,v::vs,h=>by simp only [Ai,map_cons]at h ⊢;exact⟨XN hk ha ho h.1,kK hk ha ho h.2⟩
theorem kL {id:Ah} {len:Nat} {cells:List C} (hk:Cf G G' w w') (ha: ∀ i,pF id i=false->G'.y_ i=G.y_ i/\G'.own i=G.own i) (ho: ∀ v,G.own id=some v->Af w' G' (.sl len cells) v) {x:V} {v:Value} (h:Ad w G x v):Ad w' G' (Ps id len cells x) v:=by
 cases x with
 | c x=>grind [Ps,Ad,XN]
 | agg cs=>
   grind [Ps,Ad,kK]
 | tup vs=>exact Ad.mono hk _ _ (fun i hi=>ha i (Js hi)) (Jt h)
 | g b x=>exact Ad.mono hk _ _ (fun i hi=>ha i (Js hi)) (Jt h)
 | undef=>exact Ad.mono hk _ _ (fun i hi=>ha i (Js hi)) (Jt h)
theorem dR {id:Ah} {len:Nat} {cells:List C} (hk:Cf G G' w w') (ha: ∀ i,pF id i=false->G'.y_ i=G.y_ i/\G'.own i=G.own i) (ho: ∀ v,G.own id=some v->Af w' G' (.sl len cells) v): ∀ {xs:List V} {vs:List Value},Aw w G xs vs->Aw w' G' (xs.map (Ps id len cells)) vs
 | [],vs,h=>by simpa [Aw] using h
 | x::xs,vs,h=>by simp only [Aw,map_cons]at h ⊢;obtain⟨v,r,e,h1,h2⟩:=h;exact⟨v,r,e,kL hk ha ho h1,dR hk ha ho h2⟩
theorem Qi {id:Ah} {len:Nat} {cells:List C} (hk:Cf G G' w w') (ha: ∀ i,pF id i=false->G'.y_ i=G.y_ i/\G'.own i=G.own i) (ho: ∀ v,G.own id=some v->Af w' G' (.sl len cells) v): ∀ {cs:List C} {b o:Nat},(∀ o,w'.cell? ⟨b,o,none⟩=w.cell? ⟨b,o,none⟩)->Am w G cs b o->Am w' G' (cs.map (TG id len cells)) b o
 | [],_,_,_,_=>by grind [Am]
 | c::cs,b,o,hc,h=>by simp only [Am,map_cons]at h ⊢;obtain⟨⟨v,h1,h2⟩,h3⟩:=h;exact⟨⟨v,by rw [hc];exact h1,XN hk ha ho h2⟩,Qi hk ha ho hc h3⟩
theorem Aap {f:C->C}: ∀ {cs:List C} {b o:Nat},(∀ k c,cs[k]? =some c-> ∃ v,w.cell? ⟨b,o+k,none⟩=some v/\Af w G (f c) v)->Am w G (cs.map f) b o
 | [],_,_,_=>by grind [Am]
 | c::cs,b,o,h=>by simp only [Am,map_cons];refine⟨by simpa using h 0 c (by simp),Aap (fun k c' hc=>?_)⟩;have:=h (k+1) c' (by simpa using hc);rw [show o+1+k=o+(k+1) by omega];exact this
theorem R.att (h:R F st a w G) {id:Ah} {e:AB} (hl:st.Tz id=some e) {E:TypeId} {n len:Nat} (Tc:e.row=some (E,n,len)) {cells:List C} (hcs:e.cs.map Pr=cells): ∃ G',R F (st.frD id len cells) a w G':=by
 subst hcs;obtain⟨hm,hid,hd,hmk,hpu,hpe,hi,_⟩:=h.abx hl;let G':AJ:=⟨fun i=>if pF id i=true then none else G.y_ i,fun i=>if pF id i=true then none else G.own i,fun b=>F.av b\/ ∃ i,(if pF id i=true then none else G.y_ i)=some b⟩;have hag: ∀ i,pF id i=false->G'.y_ i=G.y_ i/\G'.own i=G.own i:=(by grind);have t:I_ F (pF id) (fun _=>false) G G' w w:=G6 h G' rfl hag (by grind) (fun i j b hib hjb=>by
  simp only [G']at hib hjb;split at hib
  ·cases hib
  ·split at hjb
   ·cases hjb
   ·exact h.inj _ _ b hib hjb)
 have hno: ∀ cs:List C,Au cs=true->Jd (fun i=>BO i cs=true) G G':=fun cs hp i hi'=>absurd (show BO i cs=true from hi') (by rw [AU i cs hp];simp);have hnw: ∀ i b,pF id i=true->G.y_ i=some b-> ¬G'.wr b:=by
  intro i b hp hb hw;simp only [G']at hw;rcases hw with q | ⟨j,q⟩
  ·rcases h.new i b hb with q2 | q2
   ·have:=h.abi b q;omega
   ·exact h.aaI b q2 q
  ·split at q
   ·cases q
   ·rename_i hj;exact hj (by rw [h.inj j i b q hb];exact hp)
 have aDp:pF id id=true:=by simp [pF]
 have aDm: ∀ k,pF id (BL k id)=true:=fun k=>by simp [pF,Il]
 have aco: ∀ (b:Nat),G.y_ id=some b-> ∀ k c,e.cs[k]? =some c-> ∀ v,w.cell? ⟨b,k,none⟩=some v->Af w G c v->(Pr c).pure =true/\Af w G' (Pr c) v:=by
  intro b hb k c hk v hv hr;have hpc:c.pure=true:=by grind [B6]
  by_cases hc: ∃ E n l cs,c= .isl E n l cs
  ·obtain⟨E2,n2,l2,cs2,rfl⟩:=hc;obtain⟨k1,k2,b2,v2,k3,k4,k5⟩:=h.inner hl hk;rw [hb]at k3;injection k3 with k3;subst k3;rw [hv]at k4;injection k4 with k4;subst k4;refine⟨rfl,?_⟩;simp only [Pr,Af];unfold Ba at k2;obtain⟨c1,v2,c2,c3⟩:=k2;rw [show (⟨BL k id,some (E2,n2,l2),cs2,true⟩:AB).id =BL k id from rfl,k5]at c2;injection c2 with c2;subst c2;refine⟨k1,?_⟩;rcases c3 with ⟨p,rfl,rfl,_⟩ | ⟨b',cap,cur,rfl,e2,e3,e4,e5,e6,e7⟩
   ·grind
   ·refine⟨_,cap,rfl,e4,e5,fun h0=>?_, .inr ⟨b',0,rfl,hnw _ b' (aDm k) e2,h.lt _ b' e2,Am.mono t.keeps _ _ _ (hno _ k1) (fun _=>rfl) e7⟩⟩;simp_all
  ·have:Pr c=c:=by cases c<;>first | rfl | grind
   rw [this];exact⟨hpc,Af.mono t.keeps _ _ (fun i hi'=>absurd (show c.E_ i=true from hi') (by rw [HG i c hpc];simp)) hr⟩
 have ho: ∀ v,G.own id=some v->Af w G' (.sl len (e.cs.map Pr)) v:=by
  intro v hv;have hE:=h.store e hm;unfold Ba at hE;rw [Tc]at hE;obtain⟨c1,v1,c2,c3⟩:=hE;rw [hid,hv]at c2;injection c2 with c2;subst c2;rcases c3 with ⟨p,rfl,rfl,c5⟩ | ⟨b,cap,cur,rfl,e2,e3,e4,e5,e6,e7⟩
  ·have:e.cs=[]:=by grind
   rw [this];simp only [Af];grind
  ·rw [hid]at e2;obtain⟨vs,r1,r2⟩:=e7.list;have hl1:=r1.length;have hat: ∀ k c,e.cs[k]? =some c-> ∃ v,w.cell? ⟨b,k,none⟩=some v/\Af w G c v:=by intro k c hk;obtain⟨u,hu,hr⟩:=r1.get k c hk;exact⟨u,by simpa using r2 k u hu,hr⟩
   have ay0:Au (e.cs.map Pr)=true:=by rw [B6,all_eq_true];intro c hc;obtain⟨d,hd,rfl⟩:=mem_map.1 hc;obtain⟨k,hk,rfl⟩:=mem_iff_getElem.1 hd;obtain⟨u,q1,q2⟩:=hat k _ (List.getElem?_eq_getElem hk);grind
   simp only [Af];refine⟨ay0,_,cap,rfl,e4,e5,fun h0=>?_, .inr ⟨b,0,rfl,hnw id b aDp e2,h.lt id b e2,Aap (fun k c hk=>?_)⟩⟩
   ·simp_all
   grind
 have aDI: ∀ d:AB,(d.frD id len (e.cs.map Pr)).id =d.id:=fun d=>by obtain⟨i,r,cs,_ | _⟩:=d<;>rfl
 have hpn: ∀ d∈st.so,d.id ≠ id->pF id d.id=false/\(E9 d.id=true-> ∀ k,pF id (BL k d.id)=false):=by
  intro d hd' h2;refine⟨?_,fun _ k=>?_⟩
  ·unfold pF;rw [show (d.id==id)=false by simpa using h2,Bool.false_or];cases hq:D9 id d.id with
   | false=>rfl
   | true=>
     have:=Gi hq;rw [(h.deep d hd').1]at this;cases this
  ·unfold pF;rw [show (BL k d.id==id)=false by simpa using (CB hmk k).symm,Bool.false_or,Il];grind
 refine⟨G',t.rel h _ (by simp [St.frD]) (fun i=>?_) ?_ ?_ ?_ ?_ ?_⟩
 ·simp only [St.frD];rw [FN (by simp [Ps,Bv,V.q_])];exact kL t.keeps hag ho (h.M_ i)
 ·exact dR t.keeps hag ho h.Tk
 ·intro x hx;simp only [St.frD,mem_map,mem_filter,bne_iff_ne]at hx;obtain⟨d,⟨hd',hne⟩,rfl⟩:=hx;have hE:=h.store d hd';have hgd:=hag d.id (hpn d hd' hne).1;have hpd:=h.P_ d hd';obtain⟨i,r,ds,pu⟩:=d;cases pu with
  | true=>exact Cq t.keeps (hno _ (hpd rfl)) hgd (fun _ _=>rfl) hE
  | false=>
    unfold Ba at hE ⊢;cases r with
    | none=>
      obtain⟨b,h1,h2⟩:=hE;refine⟨b,by grind,?_⟩;rcases h2 with ⟨kv,es,h2,h3⟩ | ⟨T,cur,h2,h3,h4⟩
      ·dsimp only [AB.frD]at h2 ⊢;rw [h2];exact .inl ⟨kv,es,by simp [TG,Cj,C.q_],h3⟩
      ·exact .inr ⟨T,cur,h2,by simpa [AB.frD] using h3,Qi t.keeps hag ho (fun _=>rfl) h4⟩
    | some q=>
      obtain⟨E',n',acF⟩:=q;obtain⟨hl',v,h1,h2⟩:=hE;refine⟨by grind [AB.frD],v,by grind,?_⟩;rcases h2 with ⟨p,e1,e2,e3⟩ | ⟨b,cap,cur,e1,e2,e3,e4,e5,e6,e7⟩
      ·grind
      ·exact .inr ⟨b,cap,cur,e1,by grind,e3,e4,e5,e6,Qi t.keeps hag ho (fun _=>rfl) e7⟩
 ·intro x hx;simp only [St.frD,mem_map,mem_filter,bne_iff_ne]at hx;obtain⟨d,⟨hd',hne⟩,rfl⟩:=hx;have hD:=h.deep d hd';have hD2:Bu w G (d.frD id len (e.cs.map Pr)):=by
   obtain⟨i,r,cs,pu⟩:=d;cases pu with
   | true=>exact hD
   | false=>exact⟨hD.1,fun hq=>absurd (hD.2 hq).1 (by simp)⟩
  refine Bu.mono t.keeps (by grind) (fun hq k=>?_) (fun _ _=>rfl) (fun _ _ _ _=>rfl) hD2;grind
 ·intro x hx;simp only [St.frD,mem_map,mem_filter]at hx;obtain⟨d,⟨hd',_⟩,rfl⟩:=hx;have:=h.P_ d hd';obtain⟨i,r,cs,pu⟩:=d;cases pu with
  | true=>exact this
  | false=>intro hq;cases hq
 ·simp only [St.frD,map_map,Function.comp_def,aDI];exact List.Sublist.nodup (by grind [filter_sublist]) h.nodup
end
end Go.PL
namespace Go.PL
open Go Go.RowKit
inductive DS where
 | ld (E:TypeId) (n len:Nat) (cs:List C)
 | ix (E:TypeId) (n len:Nat) (cs:List C)
 | rd (E:TypeId) (n len:Nat) (cs:List C) (u:V)
 | ln (E:TypeId) (n len:Nat) (cs:List C)
 | st (E:TypeId) (n len ln:Nat) (cs cells:List C)
 | ps (cells:List C)
 | ab (cells:List C)
 | lx (E:TypeId) (n len:Nat) (cs:List C)
 | nw (t:Option (Nat×List C))
 | bs
 | aa (len:Nat) (cells:List C)
section
variable {F:Fr} {st:St} {a:Act} {w:World} {G:AJ}
theorem R.U_ (h:R F st a w G) {e:AB} {id:Ah} (he:e∈st.so) (hid:e.id=id) (hd:E9 id=true):st.Tz id=some e:=by
 unfold St.Tz;cases hf:st.so.find? (fun e=>e.id==id&&E9 e.id)with
 | none=>
   grind
 | some x=>
   have h1:=List.mem_of_find?_eq_some hf;have h2:=find?_some hf;simp only [and_eq_true,beq_iff_eq]at h2;rw [h.uniq h1 he (h2.1.trans hid.symm)]
theorem R.aef (h:R F st a w G) {e:AB} {id:Ah} (he:e∈st.so) (hid:e.id=id) (hd:E9 id=false) (hr:e.row.isSome=true):st.look id=some e:=by
 have hM:e.isM=false:=by grind [AB.isM]
 unfold St.look;cases hf:st.so.find? (fun e=>e.id==id&& !(e.isM||E9 e.id))with
 | none=>
   grind
 | some x=>
   have h1:=List.mem_of_find?_eq_some hf;have h2:=find?_some hf;simp only [and_eq_true,beq_iff_eq]at h2;rw [h.uniq h1 he (h2.1.trans hid.symm)]
theorem R.agm (h:R F st a w G) {d:Nat} {x:V} (hx:Ad w G x (a.tmps.getD d Go.undef)):R F (st.put (some d) x) a w G:={
 dfr:=h.dfr
 size:=by simp [St.put,h.size]
 M_:=fun i=>by
  simp only [St.put,getD_eq_getElem?_getD,getElem?_set];by_cases hi:d=i
  ·subst hi;by_cases hl:d<st.tm.length
   ·grind
   ·rw [if_pos rfl,if_neg hl,Option.getD_none];simp only [Ad]
  ·rw [if_neg hi];have:=h.M_ i;grind
 Tk:=h.Tk,store:=h.store,deep:=h.deep,P_:=h.P_,nodup:=h.nodup
 inj:=h.inj,lt:=h.lt,new:=h.new,wr:=h.wr,abi:=h.abi,inv:=h.inv,aaI:=h.aaI,os:=h.os,tape:=h.tape,output:=h.output,L_:=h.L_,ext:=h.ext}
end
section
variable {P:Program} {I:World->Prop} {o:Oper} {st d_:St} {K:St->Prop} {F:Fr} {a:Act} {w:World} {G:AJ}
theorem Rk (h:R F st a w G) {x:Operand} (hl:Bd (A2 st true x).1):Ad w G (A2 st true x).2 (a.eval x):=by obtain⟨h1,h2⟩:=OT hl;rw [<-h2];exact h.arg rfl h1
def dLd (P:Program) (st:St) (o:Oper) (E n len:Nat) (cs:List C):Option (List Prop×St):=match o.op with
 | .load T x=>match (A2 st true x).2,KO P T with
   | .c (.ptr id k),some (ag,n')=>match !ag&&Nat.beq n' 1,st.Tz id with
     | true,some e=>some ((A2 st true x).1++[e.cs[k]? =some (.isl E n len cs)],st.put o.dst (.c (.n_ (1000007::k::id))))
     | _,_=>none
   | _,_=>none
 | _=>none
theorem Aaq {E n len:Nat} {cs:List C} {l:List Prop} (h:dLd P st o E n len cs=some (l,d_)) (hl:Bd l) (hK:K d_):E4 P I o st K:=by
 unfold dLd at h;split at h
 ·rename_i T x ho;split at h
  ·rename_i id k ag n' hx ht;split at h
   ·rename_i e hb he;simp only [Option.some.injEq,injEq]at h;obtain⟨rfl,rfl⟩:=h;obtain⟨q1,q2,_⟩:=Aj.1 hl;intro F a w G Q hI hR;have hxv:=Rk hR q1;rw [hx]at hxv;simp only [Ad,Af]at hxv;obtain⟨b,hb1,hv⟩:=hxv;obtain⟨_,hE,b2,v,k3,k4,k5⟩:=hR.inner he q2;rw [hb1]at k3;injection k3 with k3;subst k3;simp only [and_eq_true,not_eq_true']at hb;obtain⟨d,i,hu,hd,_⟩:=Dl ht;have adj:v.oneCell'=true:=by unfold Ba at hE;obtain⟨_,v2,c2,c3⟩:=hE;rw [show (⟨BL k id,some (E,n,len),cs,true⟩:AB).id =BL k id from rfl,k5]at c2;injection c2 with c2;subst c2;rcases c3 with ⟨p,rfl,_⟩ | ⟨b',cap,cur,rfl,_⟩<;>rfl
    have J_:(execOp a.eval o).run P w= .ok (.value v) w:=by simp_all [execOp,DP]
    exact AO J_ ⟨_,G,hK,hR.put (by simp only [Ad,Af];exact⟨k5,adj⟩)⟩
   ·cases h
  ·cases h
 ·cases h
def dIx (P:Program) (st:St) (o:Oper) (E n len:Nat) (cs:List C):Option (List Prop×St):=match o.op with
 | .indexAddr t x y=>match (A2 st true x).2,(A2 st true y).2,Dj P t with
   | .c (.n_ (m::k::id)), .c (.int _ i),some (_,n')=>match Nat.beq m 1000007&&Nat.beq n' n,st.Tz id with
     | true,some e=>some (((A2 st true x).1++(A2 st true y).1)++[e.cs[k]? =some (.isl E n len cs),0<=i/\i<(len:Int)],st.put o.dst (.c (.ptr (m::k::id) (i.toNat*n'))))
     | _,_=>none
   | _,_,_=>none
 | _=>none
theorem Aar {E n len:Nat} {cs:List C} {l:List Prop} (h:dIx P st o E n len cs=some (l,d_)) (hl:Bd l) (hK:K d_):E4 P I o st K:=by
 unfold dIx at h;split at h
 ·rename_i t x y ho;split at h
  ·rename_i m k id ki i E' n' hx hy ht;split at h
   ·rename_i e hb he;simp only [Option.some.injEq,injEq]at h;obtain⟨rfl,rfl⟩:=h;obtain⟨q1,q2,q3,_⟩:=Aj.1 hl;obtain⟨q1,q1'⟩:=Aj.1 q1;intro F a w G Q hI hR;have hxv:=Rk hR q1;have hyv:=Rk hR q1';rw [hx]at hxv;rw [hy]at hyv;simp only [Ad,Af]at hxv hyv;simp only [and_eq_true]at hb;have hm:=eq_of_beq_eq_true hb.1;subst hm;obtain⟨_,hE,_⟩:=hR.inner he q2;unfold Ba at hE;obtain⟨_,v2,c2,c3⟩:=hE;rw [show (⟨BL k id,some (E,n,len),cs,true⟩:AB).id =BL k id from rfl,show BL k id=1000007::k::id from rfl,hxv.1]at c2;injection c2 with c2;rcases c3 with ⟨p,_,c4,_⟩ | ⟨b',cap,cur,c3,e2,_⟩
    ·omega
    ·have J_:(execOp a.eval o).run P w= .ok (.value (.pointer (some ⟨b',0+i.toNat*n',none⟩))) w:=by simp [execOp,ho,hyv,c2,c3,Ec ht b' 0 len cap ki i q3.1 q3.2 w]
     exact AO J_ ⟨_,G,hK,hR.put (by simp only [Ad,Af];exact⟨b',e2,by grind⟩)⟩
   ·cases h
  ·cases h
 ·cases h
def dRd (P:Program) (st:St) (o:Oper) (E n len:Nat) (cs:List C) (u:V):Option (List Prop×St):=match o.op with
 | .load T x=>match (A2 st true x).2,KO P T with
   | .c (.ptr (m::k::id) off),some (ag,n')=>match Nat.beq m 1000007&&(ag||Nat.blt 0 n'),st.Tz id with
     | true,some e=>some ((A2 st true x).1++[e.cs[k]? =some (.isl E n len cs),off+n'<=cs.length/\toV ag off n' cs=u],st.put o.dst u)
     | _,_=>none
   | _,_=>none
 | _=>none
theorem Aas {E n len:Nat} {cs:List C} {u:V} {l:List Prop} (h:dRd P st o E n len cs u=some (l,d_)) (hl:Bd l) (hK:K d_):E4 P I o st K:=by
 unfold dRd at h;split at h
 ·rename_i T x ho;split at h
  ·rename_i m k id off ag n' hx ht;split at h
   ·rename_i e hb he;simp only [Option.some.injEq,injEq]at h;obtain⟨rfl,rfl⟩:=h;obtain⟨q1,q2,q3,_⟩:=Aj.1 hl;intro F a w G Q hI hR;have hxv:=Rk hR q1;rw [hx]at hxv;simp only [Ad,Af]at hxv;obtain⟨b,hb1,hv⟩:=hxv;simp only [and_eq_true,or_eq_true,Nat.blt_eq]at hb;have hm:=eq_of_beq_eq_true hb.1;subst hm;obtain⟨_,hE,_⟩:=hR.inner he q2;obtain⟨cur,T',_,_,Tc⟩:=hE.row (fun q=>by cases q) hb1;obtain⟨v,r1,r2⟩:=Xh (P:=P) Tc ht q3.1 hb.2;have J_:(execOp a.eval o).run P w= .ok (.value v) w:=by simp_all [CY.refl,execOp]
    exact AO J_ ⟨_,G,hK,hR.put (by grind)⟩
   ·cases h
  ·cases h
 ·cases h
def dLn (P:Program) (st:St) (o:Oper) (E n len:Nat) (cs:List C):Option (List Prop×St):=match o.op with
 | .call c=>match c.callee,c.args.toList,c.argTypes.toList with
   | .builtin .len,[x],[t]=>match (A2 st true x).2 with
     | .c (.n_ (m::k::id))=>match Nat.beq m 1000007&&D6 P t,st.Tz id with
       | true,some e=>some ((A2 st true x).1++[e.cs[k]? =some (.isl E n len cs)],st.put o.dst (.c (.int .i64 len)))
       | _,_=>none
     | _=>none
   | _,_,_=>none
 | _=>none
theorem Aat {E n len:Nat} {cs:List C} {l:List Prop} (h:dLn P st o E n len cs=some (l,d_)) (hl:Bd l) (hK:K d_):E4 P I o st K:=by
 unfold dLn at h;split at h
 ·rename_i c ho;split at h
  ·rename_i x t h1 h2 h3;split at h
   ·rename_i m k id hx;split at h
    ·rename_i e hb he;simp only [Option.some.injEq,injEq]at h;obtain⟨rfl,rfl⟩:=h;obtain⟨q1,q2,_⟩:=Aj.1 hl;intro F a w G Q hI hR;have hxv:=Rk hR q1;rw [hx]at hxv;simp only [Ad,Af]at hxv;simp only [and_eq_true]at hb;have hm:=eq_of_beq_eq_true hb.1;subst hm;obtain⟨el,hel⟩:=EQ hb.2;obtain⟨_,hE,_⟩:=hR.inner he q2;unfold Ba at hE;obtain⟨_,v2,c2,c3⟩:=hE;rw [show (⟨BL k id,some (E,n,len),cs,true⟩:AB).id =BL k id from rfl,show BL k id=1000007::k::id from rfl,hxv.1]at c2;injection c2 with c2;have hsl: ∃ p cap,a.eval x= .slice p len cap:=by grind
     obtain⟨p,cap,hsl⟩:=hsl;have ea:c.args= #[x]:=by grind
     have et:c.argTypes= #[t]:=by grind
     have J_:(execOp a.eval o).run P w= .ok (.value (.int .i64 len)) w:=by simp [execOp,ho,resolve,h1,ea,et,invoke,builtin,Builtin.len_,Sem.run_bind,run_underlying hel,goInt,hsl]
     exact AO J_ ⟨_,G,hK,hR.put (by simp only [Ad,Af])⟩
    ·cases h
   ·cases h
  ·cases h
 ·cases h
theorem Eg {T:TypeId} {ag:Bool} {n b off:Nat} {T':TypeId} {cur:Array Value} {v:Value} (ht:KO P T=some (ag,n)) (hh:w.heap[b]? =some (.cells cur T' (0,0))) (hl:v.cells.toList.length=n) (ami:off+v.cells.toList.length<=cur.size) (adj: ∀ u∈v.cells.toList,u.oneCell'=true):
 (Instr.storeAt T (.pointer (some ⟨b,off,none⟩)) v).run P w= .ok () (w.setRow b (cur.toList.take off++v.cells.toList++cur.toList.drop (off+v.cells.toList.length)).toArray):=by
 obtain⟨d,i,hu,hd,hi,hsz⟩:=Dl ht;have hst:=run_storeCells_at P b off T' v.cells.toList 0 cur w hh (by simpa using ami) adj;simp only [add_zero]at hst;simp_all [Instr.storeAt,Instr.sureAddr,storeVar,sizeOf,typeInfo]
theorem FA {w':World} {K:Act->World->Prop} {Q:Exit->Act->World->Prop} (hr:(execOp a.eval o).run P w= .ok .skip w') (h:K (a.put o.dst Go.undef) w'):o.wp P a w K Q:=by grind [Oper.wp,Oper.upon]
def kM (len:Nat):Option (TypeId×Nat×Nat)->Option (TypeId×Nat×Nat)
 | some (E,n,_)=>some (E,n,len)
 | none=>none
def dSt (P:Program) (st:St) (o:Oper) (E n len ln:Nat) (cs cells:List C):Option (List Prop×St):=match o.op with
 | .store T x y=>match o.dst,(A2 st true x).2,(A2 st true y).2.cells,KO P T with
   | none, .c (.ptr (m::k::id) off),some xs,some (_,n')=>match Nat.beq m 1000007&&(Nat.beq xs.length n'&&Au xs),st.Tz id with
     | true,some e=>some (((A2 st true x).1++(A2 st true y).1)++[e.cs[k]? =some (.isl E n len cs),off+n'<=cs.length/\e.cs.set k (.isl E n len (cs.take off++xs++cs.drop (off+xs.length)))=cells,kM ln e.row=e.row],st.afU id (kM ln e.row) cells)
     | _,_=>none
   | _,_,_,_=>none
 | _=>none
theorem Aau {E n len ln:Nat} {cs cells:List C} {l:List Prop} (h:dSt P st o E n len ln cs cells=some (l,d_)) (hl:Bd l) (hK:K d_):E4 P I o st K:=by
 unfold dSt at h;split at h
 ·rename_i T x y ho;split at h
  ·rename_i m k id off xs ag n' ahU hx hy ht;split at h
   ·rename_i e hb he;simp only [Option.some.injEq,injEq]at h;obtain⟨rfl,rfl⟩:=h;obtain⟨q1,q2,q3,q4,_⟩:=Aj.1 hl;rw [q4]at hK;obtain⟨q1,q1'⟩:=Aj.1 q1;intro F a w G Q hI hR;have hxv:=Rk hR q1;have hyv:=Rk hR q1';rw [hx]at hxv;simp only [Ad,Af]at hxv;obtain⟨b,hb1,hv⟩:=hxv;simp only [and_eq_true]at hb;have hm:=eq_of_beq_eq_true hb.1;have hn:=eq_of_beq_eq_true hb.2.1;subst hm;have hc:=Jl hyv hy;have hlc:=hc.length;obtain⟨cur,T',r1,r2,r3⟩:=hR.aia he q2 (show G.y_ (BL k id)=some b from hb1) (off:=off) hc (by omega) hb.2.2;rw [q3.2]at r3;have hs:=Eg (P:=P) ht r1 (by omega) r2 (Ai.one hc);generalize w.setRow b _=w1 at hs r3;have J_:(execOp a.eval o).run P w= .ok .skip w1:=by simp_all [execOp]
    exact FA J_ (by rw [ahU];exact⟨_,G,hK,r3⟩)
   ·cases h
  ·cases h
 ·cases h
theorem o5 {x:V} {v:Value} (h:Ad w G x v):Ad w G x.agz v:=by cases x<;>grind [V.agz,Ad,IY,TA]
def dPs (P:Program) (st:St) (o:Oper) (cells:List C):Option (List Prop×St):=match o.op with
 | .store T x y=>match o.dst,(A2 st true x).2,(A2 st true y).2.agz.cells,KO P T with
   | none, .c (.ptr id off),some xs,some (_,n')=>match (Nat.beq xs.length n'&&Au xs)&&xs.all ov,st.Tz id with
     | true,some e=>some (((A2 st true x).1++(A2 st true y).1)++[off+n'<=e.cs.length/\e.cs.take off++xs++e.cs.drop (off+xs.length)=cells],st.afU id e.row cells)
     | _,_=>none
   | _,_,_,_=>none
 | _=>none
theorem Aav {cells:List C} {l:List Prop} (h:dPs P st o cells=some (l,d_)) (hl:Bd l) (hK:K d_):E4 P I o st K:=by
 unfold dPs at h;split at h
 ·rename_i T x y ho;split at h
  ·rename_i id off xs ag n' ahU hx hy ht;split at h
   ·rename_i e hb he;simp only [Option.some.injEq,injEq]at h;obtain⟨rfl,rfl⟩:=h;obtain⟨q1,q2,_⟩:=Aj.1 hl;obtain⟨q1,q1'⟩:=Aj.1 q1;intro F a w G Q hI hR;have hxv:=Rk hR q1;have hyv:=o5 (Rk hR q1');rw [hx]at hxv;simp only [Ad,Af]at hxv;obtain⟨b,hb1,hv⟩:=hxv;simp only [and_eq_true]at hb;have hn:=eq_of_beq_eq_true hb.1.1;have hc:=Jl hyv hy;have hlc:=hc.length;obtain⟨cur,T',r1,r2,r3⟩:=hR.ady he hb1 (off:=off) hc (by omega) hb.1.2 hb.2;rw [q2.2]at r3;have hs:=Eg (P:=P) ht r1 (by omega) r2 (Ai.one hc);generalize w.setRow b _=w1 at hs r3;have J_:(execOp a.eval o).run P w= .ok .skip w1:=by simp_all [execOp]
    exact FA J_ (by rw [ahU];exact⟨_,G,hK,r3⟩)
   ·cases h
  ·cases h
 ·cases h
theorem ul {id:Ah} {row:Option (TypeId×Nat×Nat)} {c1 c2:List C} {p:Ah->Bool} (x:AB):aar id row c2 ((aar id row c1 x).j_ p)=aar id row c2 (x.j_ p):=by
 by_cases h:x.id=id
 all_goals grind [D8,AB.K_,AB.agT,D7]
def dAb (P:Program) (st:St) (o:Oper) (cells:List C):Option (List Prop×St):=match o.op with
 | .store T x y=>match o.dst,(A2 st true x).2,(A2 st true y).2,KO P T with
   | none, .c (.ptr id k), .c (.n_ r),some (ag,n')=>match !ag&&Nat.beq n' 1,st.Tz id,st.look r with
     | true,some e,some er=>match er.row,er.pu with
       | some (E,n,len),true=>some (((A2 st true x).1++(A2 st true y).1)++[k<e.cs.length/\e.cs.set k (.isl E n len er.cs)=cells],st.j_ (pD r id) (((st.so.filter (fun d=>d.id != r)).map (AB.j_ (pD r id))).map (aar id e.row cells)))
       | _,_=>none
     | _,_,_=>none
   | _,_,_,_=>none
 | _=>none
theorem Aaw {cells:List C} {l:List Prop} (h:dAb P st o cells=some (l,d_)) (hl:Bd l) (hK:K d_):E4 P I o st K:=by
 unfold dAb at h;split at h
 ·rename_i T x y ho;split at h
  ·rename_i id k r ag n' ahU hx hy ht;split at h
   ·rename_i e er hb he her;split at h
    ·rename_i E n len Tc hpu;simp only [Option.some.injEq,injEq]at h;obtain⟨rfl,rfl⟩:=h;obtain⟨q1,q2,_⟩:=Aj.1 hl;obtain⟨q1,q1'⟩:=Aj.1 q1;intro F a w G Q hI hR;have hxv:=Rk hR q1;have hyv:=Rk hR q1';rw [hx]at hxv;rw [hy]at hyv;simp only [Ad,Af]at hxv hyv;obtain⟨b,hb1,hv⟩:=hxv;simp only [and_eq_true,not_eq_true']at hb;have hn:=eq_of_beq_eq_true hb.2;have hcl:(a.eval y).cells.toList =[a.eval y]:=by have:=hyv.2;cases hq:a.eval y<;>rw [hq]at this<;>first | rfl | cases this
     have hc:Ai w G [C.any] (a.eval y).cells.toList :=by simp_all [Ai,Af]
     obtain⟨cur,T',r1,r2,r3⟩:=hR.ady he hb1 (off:=k) hc (by simp;omega) rfl rfl;have hs:=Eg (P:=P) ht r1 (by rw [hcl];simp;omega) r2 (Ai.one hc);have aco:(w.setRow b (cur.toList.take k++(a.eval y).cells.toList ++cur.toList.drop (k+(a.eval y).cells.toList.length)).toArray).cell? ⟨b,k,none⟩=some (a.eval y):=by have:=setRow_heap w b cur (cur.toList.take k++(a.eval y).cells.toList ++cur.toList.drop (k+(a.eval y).cells.toList.length)).toArray T' (0,0) r1;grind [World.cell?,List.length_take]
     generalize w.setRow b _=w1 at hs r3 aco;have J_:(execOp a.eval o).run P w= .ok .skip w1:=by simp_all [execOp]
     obtain⟨hm,hid,hd⟩:=OV he;obtain⟨hmr,ahT⟩:=Bi her;have aoi:=Fp her;have amP:r ≠ id:=(by grind);have hD:(st.afU id e.row (e.cs.take k++[C.any]++e.cs.drop (k+[C.any].length))).Tz id=some ⟨id,e.row,e.cs.take k++[C.any]++e.cs.drop (k+[C.any].length),e.pu⟩:=by refine r3.U_ ?_ rfl hd;grind [St.afU,D8]
     have hL:(st.afU id e.row (e.cs.take k++[C.any]++e.cs.drop (k+[C.any].length))).look r=some er:=by refine r3.aef ?_ ahT aoi (by grind);grind [St.afU,D7]
     have hk':k<(⟨id,e.row,e.cs.take k++[C.any]++e.cs.drop (k+[C.any].length),e.pu⟩:AB).cs.length :=by simp;omega
     obtain⟨G',g1,_⟩:=r3.asj hD hL Tc hpu hb1 aco hyv.1 hk'
     suffices arP:R F (st.j_ (pD r id) (((st.so.filter (fun d=>d.id != r)).map (AB.j_ (pD r id))).map (aar id e.row cells))) a w1 G' from FA J_ (by rw [ahU];exact⟨_,G',hK,arP⟩)
     have e1:(e.cs.take k++[C.any]++e.cs.drop (k+[C.any].length)).set k (.isl E n len er.cs)=cells:=by
      rw [<-q2.2];apply List.ext_getElem?;intro j;simp only [getElem?_set];by_cases hj:k=j
      ·grind
      ·rw [if_neg hj,if_neg hj,append_assoc];have htl:(e.cs.take k).length =k:=by grind
       by_cases hjk:j<k
       ·grind
       ·rw [getElem?_append_right (by omega),htl,getElem?_append_right (by simp;omega),List.getElem?_drop];grind
     have e2:(((st.afU id e.row (e.cs.take k++[C.any]++e.cs.drop (k+[C.any].length))).so.filter (fun d=>d.id != r)).map (AB.j_ (pD r id))).map (aar id e.row cells)=((st.so.filter (fun d=>d.id != r)).map (AB.j_ (pD r id))).map (aar id e.row cells):=by
      simp only [St.afU];rw [List.filter_map];simp only [map_map];have:(fun d:AB=>d.id != r) ∘ aar id e.row (e.cs.take k++[C.any]++e.cs.drop (k+[C.any].length))=fun d=>d.id != r:=by funext d;simp [gI]
      grind [List.map_congr_left,ul]
     rw [e1]at g1;have e3: ∀ so,(st.afU id e.row (e.cs.take k++[C.any]++e.cs.drop (k+[C.any].length))).j_ (pD r id) so=st.j_ (pD r id) so:=fun so=>rfl;grind
    ·cases h
   ·cases h
  ·cases h
 ·cases h
def dLx (P:Program) (st:St) (o:Oper) (E n len:Nat) (cs:List C):Option (List Prop×St):=match o.op with
 | .load T x=>match o.dst,(A2 st true x).2,KO P T with
   | some d, .c (.ptr id k),some (ag,n')=>match (!ag&&Nat.beq n' 1)&&(!C2 (d::st.pre)&& !E9 (d::st.pre)),st.Tz id with
     | true,some e=>some ((A2 st true x).1++[e.cs[k]? =some (.isl E n len cs)],
      (st.j_ (pD (d::st.pre) id) (⟨d::st.pre,some (E,n,len),cs,true⟩::((st.so.filter (fun x=>x.id != d::st.pre)).map (AB.j_ (pD (d::st.pre) id))).map (aar id e.row (e.cs.set k .any)))).put (some d) (.c (.n_ (d::st.pre))))
     | _,_=>none
   | _,_,_=>none
 | _=>none
theorem Aax {E n len:Nat} {cs:List C} {l:List Prop} (h:dLx P st o E n len cs=some (l,d_)) (hl:Bd l) (hK:K d_):E4 P I o st K:=by
 unfold dLx at h;split at h
 ·rename_i T x ho;split at h
  ·rename_i d id k ag n' ahU hx ht;split at h
   ·rename_i e hb he;simp only [Option.some.injEq,injEq]at h;obtain⟨rfl,rfl⟩:=h;obtain⟨q1,q2,_⟩:=Aj.1 hl;intro F a w G Q hI hR;have hxv:=Rk hR q1;rw [hx]at hxv;simp only [Ad,Af]at hxv;obtain⟨b,hb1,hv⟩:=hxv;simp only [and_eq_true,not_eq_true']at hb;obtain⟨G',g1,b2,v,g2,g3,g4,g5⟩:=hR.extract he q2 (r:=d::st.pre) hb.2.1 hb.2.2;rw [hb1]at g2;injection g2 with g2;subst g2;obtain⟨dd,i,hu,hd,_⟩:=Dl ht;have J_:(execOp a.eval o).run P w= .ok (.value v) w:=by simp_all [execOp,DP]
    refine AO J_ ⟨_,G',hK,?_⟩;grind [R.put,Ad,Af]
   ·cases h
  ·cases h
 ·cases h
def dAa (P:Program) (st:St) (o:Oper) (ln:Nat) (cells:List C):Option (List Prop×St):=match o.op with
 | .call c=>match o.dst,c.callee,c.args.toList,c.argTypes.toList with
   | some d, .builtin .append,[u,x],[t,t']=>match (A2 st true u).2,(A2 st true x).2,Ed P t with
     | .c (.n_ id), .c (.n_ q),some (E,n,by')=>match st.Tz id,st.look q with
       | some e,some eq=>match e.row,eq.row,eq.cs with
         | some (E0,n0,len),some (E1,n1,amK),[.n_ r]=>match (t==t'&&(E0==E&&n0==n))&&(Nat.beq n 1&&(Nat.beq n1 1&&Nat.beq amK 1)),st.look r with
           | true,some er=>match er.row,er.pu with
             | some (E2,n2,abU),true=>some (((A2 st true u).1++(A2 st true x).1)++[e.cs++[.isl E2 n2 abU er.cs]=cells,(len+1)*by'<=140737488355328/\len+1<=maxLen,len+1=ln],
              ((st.j_ (· ==id) []).j_ (pD r id) (((((st.so.map (AB.j_ (· ==id))).map (aar id (some (E,n,ln)) (e.cs++[.any]))).filter (fun d=>d.id != r)).map (AB.j_ (pD r id))).map (aar id (some (E,n,ln)) cells))).put (some d) (.c (.n_ id)))
             | _,_=>none
           | _,_=>none
         | _,_,_=>none
       | _,_=>none
     | _,_,_=>none
   | _,_,_,_=>none
 | _=>none
theorem Aay {ln:Nat} {cells:List C} {l:List Prop} (h:dAa P st o ln cells=some (l,d_)) (hl:Bd l) (hK:K d_):E4 P I o st K:=by
 unfold dAa at h;split at h
 case h_2=>cases h
 rename_i c ho;split at h
 case h_2=>cases h
 rename_i d u x t t' ahU ae5 acY apY;split at h
 case h_2=>cases h
 rename_i id q E n by' hu hx abX;split at h
 case h_2=>cases h
 rename_i e eq he heq;split at h
 case h_2=>cases h
 rename_i E0 n0 len E1 n1 amK r auj ayT aD1;split at h
 case h_2=>cases h
 rename_i er hb her;split at h
 case h_2=>cases h
 rename_i E2 n2 abU Tc hpu;simp only [Option.some.injEq,injEq]at h;obtain⟨rfl,rfl⟩:=h;obtain⟨q1,q2,q3,q4,_⟩:=Aj.1 hl;subst q4;obtain⟨q1,q1'⟩:=Aj.1 q1;simp only [and_eq_true,beq_iff_eq]at hb;obtain⟨⟨rfl,rfl,rfl⟩,hb1,hb2,hb3⟩:=hb;have hn:=eq_of_beq_eq_true hb1;have hn1:=eq_of_beq_eq_true hb2;have hl1:=eq_of_beq_eq_true hb3;subst hn hn1 hl1;intro F a w G Q hI hR;have huv:=Rk hR q1;have hxv:=Rk hR q1';rw [hu]at huv;rw [hx]at hxv;simp only [Ad,Af]at huv hxv;obtain⟨hm,hid,hd⟩:=OV he;obtain⟨hmq,aze⟩:=Bi heq;obtain⟨hmr,ahT⟩:=Bi her;have aoi:=Fp her;have amP:r ≠ id:=(by grind);obtain⟨i,z,hty,hi,hz,hsz,hby,hzs⟩:=Dz abX;have hEq:=hR.store eq hmq;unfold Ba at hEq;rw [ayT,aD1]at hEq;obtain⟨_,vq,c2,c3⟩:=hEq;rw [aze,hxv.1]at c2;injection c2 with c2;rcases c3 with ⟨p,_,c4,_⟩ | ⟨bq,ar2,aFb,c3,_,_,aHV,_,_,c7⟩
 ·cases c4
 simp only [Am]at c7;obtain⟨⟨vr,hcr,hvr⟩,_⟩:=c7;simp only [Af]at hvr;obtain⟨v,xs,k1,k2,k3,k4⟩:=Dy auj (hR.store e hm);rw [hid,huv.1]at k1;injection k1 with k1;have hus:Ai w G [C.any] [vr]:=by simp_all [Ai,Af]
 have aeu: ∀ j u',[vr][j]? =some u'->w.cell? ((⟨bq,0,none⟩:Addr).add j)=some u':=by intro j u' hj;cases j<;>grind [Addr.add_mid]
 have main: ∀ v0 v' w',(Builtin.append_ #[t,t] o.type #[a.eval u,a.eval x]).run P w= .ok v' w'->v0.ownBlock=G.y_ id->(∀ b j u',G.y_ id=some b->xs[j]? =some u'->w.cell? ⟨b,j,none⟩=some u')->w.ownsRow 0 E0 1 v0 len xs->w'.ownsRow 0 E0 1 v' (len+1) (xs++[vr])->w.grownBy w' v0.ownBlock->(v'.ownBlock=v0.ownBlock\/ ∀ b,v'.ownBlock=some b->w.heap.size<=b)->o.wp P a w (ot F K) Q:=by
  intro v0 v' w' J_ hob hxc hold aaO hg hfr;obtain⟨g1,g2⟩:=hR.ag3 he auj hob k3 hus hxc hold aaO hg hfr rfl rfl;have hD:=g1.U_ (e:=⟨id,some (E0,1,len+1),e.cs++[C.any],e.pu⟩) (id:=id) (by
   simp only [St.j_,map_map,mem_map,Function.comp];grind [D8,AB.K_,AB.agT]) rfl hd
  have aLY:er.j_ (· ==id)=er:=by obtain⟨i1,r1,cs1,pu1⟩:=er;simp only at hpu;subst hpu;rfl
  have hL:=g1.aef (e:=er) (id:=r) (by
   simp only [St.j_,map_map,mem_map,Function.comp];grind [D7]) ahT aoi (by grind)
  have hlx:=k3.length;obtain⟨g,cap,cur,n1,_,n2',n3,n4,n5,n6⟩: ∃ g cap cur,v'= .slice (some ⟨g,0,none⟩) (len+1) cap/\0<=g/\w'.heap[g]? =some (.cells cur E0 (0,0))/\len+1<=cap/\cap<=maxLen/\cur.size=cap*1/\cur.toList.take ((len+1)*1)=xs++[vr]:=by
   rcases aaO.2 with ⟨_,h0⟩ | h1
   all_goals grind
  have aco:w'.cell? ⟨g,e.cs.length,none⟩=some vr:=by have hrg:=BA n2' (us:=xs++[vr]) (rest:=cur.toList.drop ((len+1)*1)) (by rw [<-n6,take_append_drop]);have:=hrg e.cs.length vr (by grind);grind
  have ab5:(B0 F G id v'.ownBlock (some v')).y_ id=some g:=by simp [B0,n1,Value.ownBlock]
  have aDr:(B0 F G id v'.ownBlock (some v')).own r=some vr:=by grind [B0]
  have hk':e.cs.length<(⟨id,some (E0,1,len+1),e.cs++[C.any],e.pu⟩:AB).cs.length :=by simp
  obtain⟨G',g3,g4⟩:=g1.asj hD hL Tc hpu ab5 aco aDr hk';have e1:(e.cs++[C.any]).set e.cs.length (.isl E2 n2 abU er.cs)=cells:=by grind
  rw [show (⟨id,some (E0,1,len+1),e.cs++[C.any],e.pu⟩:AB).row =some (E0,1,len+1)from rfl,show (⟨id,some (E0,1,len+1),e.cs++[C.any],e.pu⟩:AB).cs =e.cs++[C.any]from rfl,e1]at g3;have ea:c.args= #[u,x]:=by grind
  have et:c.argTypes= #[t,t]:=by grind
  have amO:(execOp a.eval o).run P w= .ok (.value v') w':=by simp_all [execOp,resolve,invoke,builtin]
  refine AO amO ⟨_,G',hK,?_⟩;rw [ahU];exact R.put (d:=some d) g3 (show Ad w' G' (V.c (C.n_ id)) v' by simp only [Ad,Af];exact⟨by rw [g4];simp [B0],g2⟩)
 have hbb:(len+1)*by'<=140737488355328:=q3.1;rcases k4 with ⟨k4,k5⟩ | ⟨p,hvp,h0,hxs,k5⟩
 ·rw [hid]at k5;have hxc: ∀ b j u',G.y_ id=some b->xs[j]? =some u'->w.cell? ⟨b,j,none⟩=some u':=by intro b j u' hb' hj;have:=k4.cells (g:=b) (by grind) j u' hj;grind [Addr.add_mid]
  obtain⟨v',w',J_,aaK,hg,hfr⟩:=Ii (P:=P) (w:=w) t o.type E0 i z 1 by' hty hi hz hsz hby hzs (by omega) v len xs k4 ⟨bq,0,none⟩ 1 ar2 [vr] (by simp) aeu (Ai.one hus) q3.2 hbb;grind
 ·rw [hid]at k5;subst h0 hxs;obtain⟨v',w',J_,aaK,hg,hfr⟩:=Ij (P:=P) (w:=w) t o.type E0 i z 1 by' hty hi hz hsz hby hzs (by omega) p ⟨bq,0,none⟩ 1 ar2 [vr] (by simp) aeu (by omega) (by omega) (by simpa using hbb);exact main (.slice none 0 0) v' w' (by grind) k5.symm (by grind) ⟨by simp, .inl ⟨rfl,rfl⟩⟩ (by grind) hg (.inr hfr)
end
end Go.PL
namespace Go.PL
open Go Go.RowKit
inductive Stp where
 | a
 | v (x:V)
 | c (r:V)
 | e (len:Nat) (cs:List C)
 | D (x:DS)
def wH (s:Stp) (len:Nat) (cs:List C) (k:Nat->List C->List Prop->Option (List Prop×St)):Option (List Prop×St):=
 match s with
 | .e acF cs'=>k acF cs' [len=acF/\cs=cs']
 | _=>k len cs []
theorem Qj {s:Stp} {len:Nat} {cs:List C} {k:Nat->List C->List Prop->Option (List Prop×St)} {r:List Prop×St} (h:wH s len cs k=some r):
 ∃ acF cs' l,k acF cs' l=some r/\(Bd l->len=acF/\cs=cs'):=by
 cases s<;>simp only [wH]at h<;>first
  | exact⟨_,_,_,h,fun q=>q.1⟩
  | grind
def Qk (id:Ah) (len:Nat):List AB->Prop
 | []=>True
 | e::es=>match e.id==id with
   | true=>kM len e.row=e.row/\Qk id len es
   | false=>Qk id len es
def St.asR (st:St) (id:Ah) (cs:List C) (q:Bool) (len:Nat):St:={st with so:=st.so.map fun e=>match e.id==id with
 | true=>⟨e.id,kM len e.row,cs,e.pu&&q⟩
 | false=>e}
theorem rV {st:St} {id:Ah} {cs:List C} {q:Bool} {len:Nat} (h:Qk id len st.so):st.asR id cs q len=st.adH id cs q:=by
 have: ∀ l:List AB,Qk id len l->(l.map fun e=>match e.id==id with
  | true=>(⟨e.id,kM len e.row,cs,e.pu&&q⟩:AB)
  | false=>e)=l.map fun e=>if e.id==id then(⟨e.id,e.row,cs,e.pu&&q⟩:AB)else e:=by
  intro l;induction l<;>grind [Qk]
 unfold St.asR St.adH;rw [this st.so h]
def o6 (P:Program) (st:St) (s:Stp) (d:Option Nat) (T:TypeId) (l:List Prop) (x y:V):Option (List Prop×St):=
 match x,y.cells,KO P T with
 | .c (.ptr id off),some cs,some (_,n)=>match st.look id with
   | some e=>match s with
     | .e acF cs'=>WZ (cs.length==n) (l++[off+n<=e.cs.length/\e.cs.take off++cs++e.cs.drop (off+cs.length)=cs',Qk id acF st.so],(st.asR id cs' (Au cs) acF).put d .undef)
     | _=>WZ (cs.length==n&&Nat.ble (off+n) e.cs.length) (l,(st.adH id (e.cs.take off++cs++e.cs.drop (off+cs.length)) (Au cs)).put d .undef)
   | none=>none
 | _,_,_=>none
theorem Rl {P:Program} {st d_:St} {s:Stp} {d:Option Nat} {T:TypeId} {l l':List Prop} {x y:V} (h:o6 P st s d T l x y=some (l',d_)) (hl:Bd l'):
 Bd l/\(G4 P st T x y).1/\(G4 P st T x y).2.put d .undef =d_:=by
 unfold o6 at h;unfold G4;split at h
 ·rename_i id off cs ag n h1 h2;split at h
  ·rename_i e he;split at h
   ·rename_i len cs';obtain⟨hb,hr⟩:=BJ h;simp only [injEq]at hr;obtain⟨rfl,rfl⟩:=hr;obtain⟨q1,q2,q3,_⟩:=Aj.1 hl;grind [rV]
   ·obtain⟨hb,hr⟩:=BJ h;simp_all
  ·cases h
 ·cases h
def AdJ (st:St) (n:Nat):V->Option (List Prop×Nat×List C×Bool)
 | .c (.sl m cs)=>some ([cs.length=m*n],m,cs,true)
 | .c (.n_ id)=>match st.look id with
   | some e=>match e.row with
     | some (_,n',m)=>WZ (n'==n) ([],m,e.cs,e.pu)
     | none=>none
   | none=>none
 | _=>none
theorem o7 {st:St} {n:Nat} {x:V} {l:List Prop} {r:Nat×List C×Bool} (h:AdJ st n x=some (l,r)) (hl:Bd l):Ra st n x=some r:=by
 unfold AdJ at h;unfold Ra;split at h
 ·simp only [Option.some.injEq,injEq]at h;obtain⟨rfl,rfl⟩:=h;exact if_pos hl.1
 ·split at h
  ·rename_i h1;split at h
   ·rename_i h2;obtain⟨hb,hr⟩:=BJ h;grind
   ·cases h
  ·cases h
 ·cases h
def gJ (P:Program) (st:St) (s:Stp) (d:Nat) (t:TypeId) (l:List Prop) (u x:V):Option (List Prop×St):=
 match u,Ed P t with
 | .c (.n_ id),some (E,n,by')=>match st.look id,AdJ st n x with
   | some e,some (l2,m,cs,q)=>match e.row with
     | some (E',n',len)=>match E'==E&&n'==n&&Nat.blt 0 n with
       | true=>wH s (len+m) (e.cs++cs) fun acF cs' l3=>
         some (l++(l2++(l3++[(len+m)*by'<=140737488355328/\len+m<=maxLen])),(st.new ⟨id,some (E,n,acF),cs',e.pu&&q⟩).put (some d) (.c (.n_ id)))
       | false=>none
     | none=>none
   | _,_=>none
 | _,_=>none
theorem bO {P:Program} {st d_:St} {s:Stp} {d:Nat} {t:TypeId} {l l':List Prop} {u x:V} (h:gJ P st s d t l u x=some (l',d_)) (hl:Bd l'):
 Bd l/\(Gf P st d t u x).1/\(Gf P st d t u x).2=d_:=by
 unfold gJ at h;unfold Gf;split at h
 ·rename_i id E n by' h1;split at h
  ·rename_i e l2 m cs q h2 h3;split at h
   ·rename_i E' n' len h4;split at h
    ·rename_i hb;obtain⟨acF,cs',l3,hk,ht⟩:=Qj h;simp only [Option.some.injEq,injEq]at hk;obtain⟨rfl,rfl⟩:=hk;obtain⟨q1,q2⟩:=Aj.1 hl;obtain⟨q2,q3⟩:=Aj.1 q2;obtain⟨q3,q4,_⟩:=Aj.1 q3;obtain⟨rfl,rfl⟩:=ht q3;simp only [and_eq_true,beq_iff_eq,Nat.blt_eq]at hb;simp only [h1,h2,o7 h3 q2,h4];grind
    ·cases h
   ·cases h
  ·cases h
 ·cases h
def wI (P:Program) (st:St) (s:Stp) (d:Nat) (t:TypeId) (l:List Prop) (x y:V):Option (List Prop×St):=
 match x,y,s with
 | .c (.bsl id off len), .c (.bsl id2 agO abU), .e acF cs'=>match Dj P t with
   | some (_,1)=>match st.look id,st.look id2 with
     | some e,some e2=>WZ (Nat.ble (off+Nat.min abU len) e.cs.length&&Nat.ble (agO+Nat.min abU len) e2.cs.length) (l++[e.cs.take off++(e2.cs.drop agO).take (Nat.min abU len)++e.cs.drop (off+((e2.cs.drop agO).take (Nat.min abU len)).length)=cs',Qk id acF st.so],
      (st.asR id cs' (Au ((e2.cs.drop agO).take (Nat.min abU len))) acF).put (some d) (.c (.int .i64 (Nat.min abU len:Nat))))
     | _,_=>none
   | _=>none
 | _,_,_=>none
theorem kN {P:Program} {st d_:St} {s:Stp} {d:Nat} {t:TypeId} {l l':List Prop} {x y:V} (h:wI P st s d t l x y=some (l',d_)) (hl:Bd l'):
 Bd l/\(UY P st d t x y).1/\(UY P st d t x y).2=d_:=by
 unfold wI at h;unfold UY;split at h
 ·rename_i id off len id2 agO abU acF cs';split at h
  ·rename_i E h0;split at h
   ·rename_i e e2 h1 h2;obtain⟨hb,hr⟩:=BJ h;simp only [injEq]at hr;obtain⟨rfl,rfl⟩:=hr;obtain⟨q1,q2,q3,_⟩:=Aj.1 hl;simp_all [rV]
   ·cases h
  ·cases h
 ·cases h
def wJ (P:Program) (st:St) (s:Stp) (d:Nat) (t:TypeId) (p:List Prop) (l c:V):Option (List Prop×St):=
 match l,c,Ed P t with
 | .c (.int _ l), .c (.int _ c),some (E,n,by')=>match PD P E with
   | some z=>match z.length==n&&Nat.blt 0 n with
     | true=>wH s l.toNat (Ca z l.toNat) fun acF cs' l3=>some (p++(l3++[0<=l/\l<=c/\c*by'<=140737488355328/\c<=maxLen]),(st.new ⟨d::st.pre,some (E,n,acF),cs',true⟩).put (some d) (.c (.n_ (d::st.pre))))
     | false=>none
   | none=>none
 | _,_,_=>none
theorem kO {P:Program} {st d_:St} {s:Stp} {d:Nat} {t:TypeId} {p l':List Prop} {l c:V} (h:wJ P st s d t p l c=some (l',d_)) (hl:Bd l'):
 Bd p/\(Kk P st d t l c).1/\(Kk P st d t l c).2=d_:=by
 unfold wJ at h;unfold Kk;split at h
 ·rename_i h1;split at h
  ·rename_i h2;split at h
   ·rename_i hb;obtain⟨acF,cs',l3,hk,ht⟩:=Qj h;simp only [Option.some.injEq,injEq]at hk;obtain⟨rfl,rfl⟩:=hk;obtain⟨q1,q2⟩:=Aj.1 hl;obtain⟨q2,q3,_⟩:=Aj.1 q2;obtain⟨rfl,rfl⟩:=ht q2;simp_all
   ·cases h
  ·cases h
 ·cases h
def Mm (st:St) (g:Bool) (ps:List (Nat×Operand)):List Prop×List (Nat×V):=
 match ps with
 | []=>([],[])
 | (i,x)::r=>((A2 st g x).1++(Mm st g r).1,(i,(A2 st g x).2)::(Mm st g r).2)
theorem TH {st:St} {g:Bool}: ∀ {ps:List (Nat×Operand)},Bd (Mm st g ps).1->(st.parts g ps).1/\(st.parts g ps).2=(Mm st g ps).2
 | [],_=>⟨trivial,rfl⟩
 | (i,x)::r,hl=>by obtain⟨h1,h2⟩:=Aj.1 hl;have a:=OT (st:=st) (g:=g) (x:=x) h1;have b:=TH (st:=st) (g:=g) (ps:=r) h2;simp only [St.parts,Mm];exact⟨⟨a.1,b.1⟩,by rw [a.2,b.2]⟩
def AdK (P:Program) (st:St) (s:Stp) (d:Nat) (t:TypeId) (len:Nat) (ps:List (Nat×Operand)):Option (List Prop×St):=
 match Ed P t with
 | some (E,n,_)=>match PD P E with
   | some z=>match Jm (fun i=>some (i*n,n)) (Ca z len) ((Mm st true ps).2.map UX)with
     | some cs=>match z.length==n&&Nat.blt 0 n&&Nat.ble (len*n) (2 ^ 24)&&Au cs with
       | true=>wH s len cs fun acF cs' l3=>some ((Mm st true ps).1++l3,(st.new ⟨d::st.pre,some (E,n,acF),cs',true⟩).put (some d) (.c (.n_ (d::st.pre))))
       | false=>none
     | none=>none
   | none=>none
 | none=>none
theorem o8 {P:Program} {st d_:St} {s:Stp} {d:Nat} {t:TypeId} {len:Nat} {ps:List (Nat×Operand)} {l':List Prop} (h:AdK P st s d t len ps=some (l',d_)) (hl:Bd l'):
 (Bf P st d t len ps).1/\(Bf P st d t len ps).2=d_:=by
 unfold AdK at h;unfold Bf;split at h
 ·rename_i h1;split at h
  ·rename_i h2;split at h
   ·rename_i h3;split at h
    ·rename_i hb;obtain⟨acF,cs',l3,hk,ht⟩:=Qj h;simp only [Option.some.injEq,injEq]at hk;obtain⟨rfl,rfl⟩:=hk;obtain⟨q1,q2⟩:=Aj.1 hl;obtain⟨rfl,rfl⟩:=ht q2;simp_all [TH]
    ·cases h
   ·cases h
  ·cases h
 ·cases h
def ef1 (P:Program) (st:St) (s:Stp) (o:Oper):Option (List Prop×St):=
 match o.op with
 | .store T x y=>o6 P st s o.dst T ((A2 st true x).1++(A2 st true y).1) (A2 st true x).2 (V5 st (A2 st true x).2 (oJ y (A2 st true y).2))
 | op=>match o.dst with
   | none=>none
   | some d=>match op with
     | .alloc T=>match Xu P T with
       | some cs=>some ([],(st.new ⟨d::st.pre,none,cs,false⟩).put (some d) (.c (.ptr (d::st.pre) 0)))
       | none=>none
     | .box _ x=>match (A2 st true x).2.cells with
       | some cs=>some ((A2 st true x).1,(st.new ⟨d::st.pre,none,cs,false⟩).put (some d) (.c (.ptr (d::st.pre) 0)))
       | none=>none
     | .assign (.const (.slice none 0 0))=>match Dj P o.type with
       | some (E,n)=>some ([],(st.new ⟨d::st.pre,some (E,n,0),[],true⟩).put (some d) (.c (.n_ (d::st.pre))))
       | none=>none
     | .buildSlice t len ps=>AdK P st s d t len ps.toList
     | .makeSlice t l c=>wJ P st s d t ((A2 st true l).1++(A2 st true c).1) (A2 st true l).2 (A2 st true c).2
     | .call c=>match c.callee,c.args.toList,c.argTypes.toList with
       | .builtin .append,[u,x],[t,t']=>match t==t' with
         | true=>gJ P st s d t ((A2 st true u).1++(A2 st true x).1) (A2 st true u).2 (A2 st true x).2
         | false=>none
       | .builtin .copy,[u,x],[t,_]=>wI P st s d t ((A2 st true u).1++(A2 st true x).1) (A2 st true u).2 (A2 st true x).2
       | _,_,_=>none
     | _=>none
theorem TI {P:Program} {st d_:St} {s:Stp} {o:Oper} {l:List Prop} (h:ef1 P st s o=some (l,d_)) (hl:Bd l):(PL.ef P st o).1/\(PL.ef P st o).2=d_:=by
 have A: ∀ x,Bd (A2 st true x).1->(st.arg true x).1/\(st.arg true x).2=(A2 st true x).2:=fun x hx=>OT hx;obtain⟨dst,op,ty,pos,aft,gd⟩:=o;cases op<;>cases dst<;>simp only [ef1]at h<;>simp only [PL.ef]<;>try (cases h;done)
 case store.none T x y=>
  have:=Rl h hl;grind [Aj]
 case store.some T x y d=>
  have:=Rl h hl;grind [Aj]
 case alloc.some T d=>
  grind
 case box.some T x d=>
  grind
 case assign.some x d=>
  grind
 case buildSlice.some t len ps d=>exact o8 h hl
 case makeSlice.some t a b d=>
  have:=kO h hl;grind [Aj]
 case call.some c d=>
  split at h
  ·rename_i u x t t' h1 h2 h3;split at h
   ·rename_i hb;obtain rfl:t=t':=by grind
    have:=bO h hl;simp_all [Aj]
   ·cases h
  ·rename_i u x t t' h1 h2 h3;have:=kN h hl;simp_all [Aj]
  ·cases h
def Stp.u:Stp->Option V
 | .v x=>some x
 | _=>none
def dNw (P:Program) (st:St) (o:Oper) (t:Option (Nat×List C)):Option (List Prop×St):=match Cb o.op,ef1 P st (match t with
    | none=> .a
    | some (l,cs)=> .e l cs) o,o.dst with
 | .ef,some (l,st1),some d=>match st1.get d with
   | .c (.n_ r)=>match st1.look r with
     | some er=>match er.row,er.pu with
       | some (E,n,len),true=>some (l++[er.cs.all ov=true],(st1.j_ (fun i=>i==r||(i==1000003::r||D9 (1000003::r) i)) (⟨1000003::r,some (E,n,len),er.cs,true⟩::((st1.so.filter (fun d=>d.id != r&&d.id != 1000003::r)).map (AB.j_ (fun i=>i==r||(i==1000003::r||D9 (1000003::r) i)))))).put (some d) (.c (.n_ (1000003::r))))
       | _,_=>none
     | none=>none
   | _=>none
 | _,_,_=>none
theorem Aaz {P:Program} {I:World->Prop} {o:Oper} {st d_:St} {K:St->Prop} {t:Option (Nat×List C)} {l:List Prop} (h:dNw P st o t=some (l,d_)) (hl:Bd l) (hK:K d_):E4 P I o st K:=by
 unfold dNw at h;split at h
 case h_2=>cases h
 rename_i l1 st1 d hk hef ahU;split at h
 case h_2=>cases h
 rename_i r azg;split at h
 case h_2=>cases h
 rename_i er her;split at h
 case h_2=>cases h
 rename_i E n len Tc hpu;simp only [Option.some.injEq,injEq]at h;obtain⟨rfl,rfl⟩:=h;obtain⟨q1,q2,_⟩:=Aj.1 hl;intro F a w G Q hI hR;obtain⟨h1,h2⟩:=TI hef q1;have hs:tX P F.I o st (fun s'=>s'=st1):=by grind [tX]
 refine Oper.wp_mono (fun a' w' ⟨s',G',hs',hR'⟩=>?_) (OS hR hs);subst hs';obtain⟨G2,g1,g2⟩:=hR'.ar0 her Tc hpu q2 (id:=1000003::r) rfl rfl;have hv:=hR'.M_ d;rw [show s'.tm.getD d .undef = .c (.n_ r)from azg]at hv;simp only [Ad,Af]at hv;exact⟨_,G2,hK,g1.agm (by grind [Ad,Af])⟩
def dBs (P:Program) (st:St) (o:Oper):Option (List Prop×St):=match o.op,o.dst with
 | .buildSlice t len ps,some d=>match Ed P t with
   | some (E,n,_)=>match PD P E with
     | some z=>match Jm (fun i=>some (i*n,n)) (Ca z len) ((Mm st true ps.toList).2.map UX)with
       | some cs=>match z.length==n&&Nat.blt 0 n&&Nat.ble (len*n) (2 ^ 24)with
         | true=>some ((Mm st true ps.toList).1,(st.new ⟨d::st.pre,some (E,n,len),cs,Au cs⟩).put (some d) (.c (.n_ (d::st.pre))))
         | false=>none
       | none=>none
     | none=>none
   | none=>none
 | _,_=>none
theorem um {P:Program} {o:Oper} {st d_:St} {l:List Prop} (h:dBs P st o=some (l,d_)) (hl:Bd l):Cb o.op= .ef /\(PL.ef P st o).1/\(PL.ef P st o).2=d_:=by
 obtain⟨dst,op,ty,pos,aft,gd⟩:=o;unfold dBs at h;simp only at h;split at h
 case h_2=>cases h
 rename_i t len ps d;refine⟨rfl,?_⟩;simp only [PL.ef];unfold Bf;split at h
 ·rename_i h1;split at h
  ·rename_i h2;split at h
   ·rename_i h3;split at h
    ·rename_i hb;simp only [Option.some.injEq,injEq]at h;obtain⟨rfl,rfl⟩:=h;simp_all [TH]
    ·cases h
   ·cases h
  ·cases h
 ·cases h
def wK (P:Program) (st:St) (o:Oper):DS->Option (List Prop×St)
 | .ld E n len cs=>dLd P st o E n len cs
 | .ix E n len cs=>dIx P st o E n len cs
 | .rd E n len cs u=>dRd P st o E n len cs u
 | .ln E n len cs=>dLn P st o E n len cs
 | .st E n len ln cs cells=>dSt P st o E n len ln cs cells
 | .ps cells=>dPs P st o cells
 | .ab cells=>dAb P st o cells
 | .lx E n len cs=>dLx P st o E n len cs
 | .nw t=>dNw P st o t
 | .bs =>dBs P st o
 | .aa ln cells=>dAa P st o ln cells
theorem up {P:Program} {I:World->Prop} {o:Oper} {st d_:St} {K:St->Prop} {x:DS} {l:List Prop} (h:wK P st o x=some (l,d_)) (hl:Bd l) (hK:K d_):tX P I o st K:=by
 cases x<;>simp only [wK]at h
 case bs=>
  obtain⟨h1,h2,h3⟩:=um h hl;grind [tX]
 all_goals refine .inl ?_
 ·exact Aaq h hl hK
 ·exact Aar h hl hK
 all_goals grind [Aas,Aat,Aau,Aav,Aaw,Aax,Aaz,Aay]
def o9 (P:Program) (I:World->Prop) (dr:Bool) (ops:Array Oper) (o:Oper) (s:Stp) (st:St):Option (List Prop×St):=
 match o.guard with
 | none=>match Cb o.op with
   | .rd =>match opT P st true s.u o.op with
     | some (l,v)=>some (l,st.put o.dst v)
     | none=>none
   | .cut x=>match dr with
     | true=>match opT P st true s.u o.op with
       | some (l,v)=>some (l,st.put o.dst v)
       | none=>none
     | false=>match opT P (st.cutAt true x) true s.u o.op with
       | some (l,v)=>some (l,(st.cutAt true x).put o.dst v)
       | none=>none
   | .ef =>match dr with
     | true=>none
     | false=>ef1 P st s o
   | .call f xs=>match s with
     | .c r=>match B9 ((HK st true xs).2.map (BC st))&&(r.flat||(!dr&&Nat.ble (C0 (HK st true xs).2).length 1&&(C0 (HK st true xs).2).all st.acU))with
       | true=>some ((HK st true xs).1++[CZ P I f ((HK st true xs).2.map (BC st)) (· =r)],match dr with
         | true=>st.put o.dst r
         | false=>st.after (C0 (HK st true xs).2) o.dst r)
       | false=>none
     | _=>none
   | .no =>none
 | some (j,want)=>match Iz st ops j want with
   | some g=>match Cb o.op with
     | .rd =>match opT P st g s.u o.op with
       | some ([],v)=>some ([],st.put o.dst (.g g v))
       | some (l,v)=>some ([g=true->Bd l],st.put o.dst (.g g v))
       | none=>none
     | .cut _=>match dr with
       | true=>match opT P st g s.u o.op with
         | some ([],v)=>some ([],st.put o.dst (.g g v))
         | some (l,v)=>some ([g=true->Bd l],st.put o.dst (.g g v))
         | none=>none
       | false=>none
     | .call f xs=>match s with
       | .c r=>match B9 ((HK st g xs).2.map (BC st))&&(r.flat||(!dr&&(C0 (HK st g xs).2).isEmpty))with
         | true=>some ([g=true->Bd (HK st g xs).1/\CZ P I f ((HK st g xs).2.map (BC st)) (· =r)],st.put o.dst (.g g r))
         | false=>none
       | _=>none
     | .ef =>match dr with
       | true=>none
       | false=>match ef1 P st s o with
         | some (l,d_)=>some (l++[g=true],d_)
         | none=>none
     | _=>none
   | none=>none
def kP (P:Program) (I:World->Prop) (dr:Bool) (ops:Array Oper) (o:Oper) (s:Stp) (st:St):Option (List Prop×St):=
 match s with
 | .D x=>match dr,o.guard with
   | false,none=>wK P st o x
   | _,_=>none
 | s=>o9 P I dr ops o s st
def HL (P:Program) (I:World->Prop) (dr:Bool) (ops:Array Oper):List Oper->List Stp->St->Option (List Prop×St)
 | [],[],st=>some ([],st)
 | o::rest,s::ss,st=>match kP P I dr ops o s st with
   | some (l,d_)=>match HL P I dr ops rest ss d_ with
     | some (l',auZ)=>some (l++l',auZ)
     | none=>none
   | none=>none
 | _,_,_=>none
theorem wL {st:St} {g:Bool} {x:Operand}:(st.arg g x).2=(A2 st g x).2:=by grind [A2,St.arg]
theorem dU {st:St} {g:Bool}: ∀ {xs:List Operand},(st.args g xs).2=(HK st g xs).2
 | []=>rfl
 | x::xs=>by simp only [St.args,HK,wL,dU (xs:=xs)]
theorem AaA {P:Program} {I:World->Prop} {ops:Array Oper} {o:Oper} {x:DS} {st d_:St} {l:List Prop} {K:St->Prop} (h:kP P I false ops o (.D x) st=some (l,d_)) (hl:Bd l) (hK:K d_):dG P I ops o st K:=by grind [kP,dG,up]
theorem kQ {P:Program} {I:World->Prop} {ops:Array Oper} {o:Oper} {s:Stp} {st d_:St} {l:List Prop} {K:St->Prop} (h:kP P I false ops o s st=some (l,d_)) (hl:Bd l) (hK:K d_):dG P I ops o st K:=by
 by_cases hD: ∃ x,s= .D x
 ·obtain⟨x,rfl⟩:=hD;exact AaA h hl hK
 replace h:o9 P I false ops o s st=some (l,d_):=by cases s<;>first | exact h | grind
 unfold o9 at h;unfold dG;split at h
 ·rename_i hg;rw [hg];simp only;unfold tX;right;split at h
  ·rename_i hk;simp only [hk];split at h
   ·rename_i l v ho;simp only [Option.some.injEq,injEq]at h;obtain⟨rfl,rfl⟩:=h;grind [OU]
   ·cases h
  ·rename_i x hk;simp only [hk];dsimp only at h;split at h
   ·rename_i l v ho;simp only [Option.some.injEq,injEq]at h;obtain⟨rfl,rfl⟩:=h;grind [OU]
   ·cases h
  ·grind [TI]
  ·rename_i f xs hk;simp only [hk];split at h
   ·rename_i r;split at h
    ·rename_i hb;simp only [Option.some.injEq,injEq]at h;obtain⟨rfl,rfl⟩:=h;obtain⟨q1,q2,_⟩:=Aj.1 hl;obtain⟨k1,k2⟩:=Ri q1;simp only [and_eq_true,or_eq_true,Bool.not_false,true_and,Nat.ble_eq,all_eq_true]at hb;grind
    ·cases h
   ·cases h
  ·cases h
 ·rename_i j want hg;rw [hg];simp only;split at h
  ·rename_i g hq;rw [hq];simp only;unfold wpG;by_cases hef:Cb o.op= .ef
   ·left;rw [hef]at h;dsimp only at h;split at h
    ·rename_i l1 st1 h1;simp only [Option.some.injEq,injEq]at h;obtain⟨rfl,rfl⟩:=h;obtain⟨q1,q2,_⟩:=Aj.1 hl;grind [tX,TI]
    ·cases h
   right;split at h
   ·rename_i hk;simp only [hk];split at h
    ·rename_i v ho;simp only [Option.some.injEq,injEq]at h;obtain⟨rfl,rfl⟩:=h;exact⟨v,fun _=>OU ho trivial,hK⟩
    ·rename_i l v hne ho;simp only [Option.some.injEq,injEq]at h;obtain⟨rfl,rfl⟩:=h;exact⟨v,fun hgt=>OU ho (hl.1 hgt),hK⟩
    ·cases h
   ·cases h
   ·rename_i f xs hk;simp only [hk];split at h
    ·rename_i r;split at h
     ·rename_i hb;simp only [Option.some.injEq,injEq]at h;obtain⟨rfl,rfl⟩:=h;simp only [and_eq_true,or_eq_true,Bool.not_false,true_and,List.isEmpty_iff]at hb;refine⟨fun hgt=>?_,r,(by grind [dU]),fun hgt=>?_,hK⟩
      ·obtain⟨k1,k2⟩:=Ri (hl.1 hgt).1;grind
      ·obtain⟨k1,k2⟩:=Ri (hl.1 hgt).1;rw [k2];exact(hl.1 hgt).2
     ·cases h
    ·cases h
   all_goals grind
  ·cases h
theorem gK {P:Program} {I:World->Prop} {ops:Array Oper}: ∀ {l:List Oper} {ss:List Stp} {st d_:St} {cs:List Prop} {K:St->Prop},HL P I false ops l ss st=some (cs,d_)->Bd cs->K d_->E5 P I ops l st K
 | [],[],st,d_,cs,K,h,_,hK=>by simp only [HL,Option.some.injEq,injEq]at h;obtain⟨rfl,rfl⟩:=h;exact hK
 | o::rest,s::ss,st,d_,cs,K,h,hl,hK=>by
   simp only [HL]at h;split at h
   ·rename_i l1 st1 h1;split at h
    ·rename_i l2 st2 h2;simp only [Option.some.injEq,injEq]at h;obtain⟨rfl,rfl⟩:=h;obtain⟨q1,q2⟩:=Aj.1 hl;exact kQ (K:=fun s=>E5 P I ops rest s K) h1 q1 (gK h2 q2 hK)
    ·cases h
   ·cases h
 | [],_::_,_,_,_,_,h,_,_=>by simp [HL]at h
 | _::_,[],_,_,_,_,h,_,_=>by simp [HL]at h
section
variable {P:Program} {F:Fr} {st:St}
theorem Aq.reg {id:Nat} {l:List Oper} {Q:Exit->St->Prop} {ss:List Stp} {cs:List Prop} {d_:St} (hr:HL P F.I false l.toArray l ss st=some (cs,d_)) (hl:Bd cs) (h:Q .normal d_):Aq P F (.region id l.toArray false) st Q:=
 Aq.region (gK hr hl h)
theorem Aq.ifB {c:Operand} {x y:Code} {Q:Exit->St->Prop} (b:Bool) (hc:st.ev c= .c (.bool b)) (h1:b=true->Aq P F x st Q) (h2:b=false->Aq P F y st Q):Aq P F (.cond c x y) st Q:=Aq.cond hc h1 h2
def iter {σ ρ:Type} (B:σ->Option (σ⊕ρ)):Nat->σ->Option ρ
 | 0,_=>none
 | n+1,s=>match B s with
   | some (.inl s')=>iter B n s'
   | some (.inr r)=>some r
   | none=>none
end
def Ab (x:Int):Int:=IntKind.i64.wrap x
def gd {α:Type} [Inhabited α] (g:Bool) (o:Option α):Option α:=if g then o else some default
def idx {α:Type} [Inhabited α] (l:List α) (i:Int):Option α:=if 0<=i/\i<l.length then some (l.getD i.toNat default)else none
def acT (s:List UInt8) (i:Int):Option Int:=if 0<=i/\i<s.length then some (s.getD i.toNat 0).toNat else none
def cat (a b:List UInt8):Option (List UInt8):=if a.length+b.length<=maxLen then some (a++b)else none
def gL (s:List UInt8) (a b:Int):Option (List UInt8):=if 0<=a/\a<=b/\b<=s.length then some ((s.drop a.toNat).take (b.toNat - a.toNat))else none
def KS {α:Type} (s:List α) (a b:Int):Option (List α):=if 0<=a/\a<=b/\b<=s.length then some ((s.drop a.toNat).take (b.toNat - a.toNat))else none
def app {α:Type} (by':Nat) (l m:List α):Option (List α):=if(l.length+m.length)*by'<=140737488355328/\l.length+m.length<=maxLen then some (l++m)else none
def A1 (p:Prop) [Decidable p]:Option Unit:=if p then some ()else none
theorem bS {α β:Type} {o:Option α} {k:α->Option β} {r:β} (h:o.bind k=some r): ∃ x,o=some x/\k x=some r:=by cases o<;>grind
theorem sI {α:Type} {x y:α} (h:some x=some y):x=y:=Option.some.inj h
section
variable {α:Type} [Inhabited α] {l m r:List α} {i:Int} {x:α} {g:Bool}
theorem Rm (h:idx l i=some x):0<=i/\i<l.length:=by grind [idx]
theorem kR (h:idx l i=some x):x=l.getD i.toNat default:=by grind [idx]
theorem wM {o:Option α} (h:gd g o=some x):g=true->o=some x:=fun hg=>by simp_all [gd]
theorem AdL {s:List UInt8} {n:Int} (h:acT s i=some n):0<=i/\i<s.length:=by grind [acT]
theorem AdM {s:List UInt8} {n:Int} (h:acT s i=some n):n=(s.getD i.toNat 0).toNat :=by grind [acT]
theorem AcK {a b c:List UInt8} (h:cat a b=some c):a.length+b.length<=maxLen:=by grind [cat]
theorem AcL {a b c:List UInt8} (h:cat a b=some c):c=a++b:=by grind [cat]
theorem AdN {s c:List UInt8} {a b:Int} (h:gL s a b=some c):0<=a/\a<=b/\b<=s.length:=by grind [gL]
theorem AdO {s c:List UInt8} {a b:Int} (h:gL s a b=some c):c=(s.drop a.toNat).take (b.toNat - a.toNat):=by grind [gL]
omit [Inhabited α] in
theorem rW {b:Nat} (h:app b l m=some r):(l.length+m.length)*b<=140737488355328/\l.length+m.length<=maxLen:=by grind [app]
omit [Inhabited α] in
theorem wN {b:Nat} (h:app b l m=some r):r=l++m:=by grind [app]
end
theorem Ck {p:Prop} [Decidable p] {u:Unit} (h:A1 p=some u):p:=by grind [A1]
def eI (k:IntKind) (v:Int):List C:=[.int k v]
def eB (v:Bool):List C:=[.bool v]
def eS (v:List UInt8):List C:=[.str v]
def eL {α:Type} (e:α->List C) (l:List α):List C:=[.sl l.length (l.flatMap e)]
theorem rX {α:Type} [Inhabited α] {l:List α} {i:Int} {x:α} {e:α->List C} {N:Nat} {o n:Nat} {ag:Bool} {v:V} {off:Nat} (hx:idx l i=some x) (hN: ∀ y,(e y).length =N) (acX:off=i.toNat*N+o) (ho:o+n<=N) (h0:ag=true\/0<n)
 (hv:toV ag o n (e x)=v):off+n<=(l.flatMap e).length /\toV ag off n (l.flatMap e)=v:=by
 have hb:=Rm hx;have hxx:=kR hx;have hlt:i.toNat<l.length:=by omega
 subst acX;rw [Dp hN];constructor
 ·have:(i.toNat+1)*N<=l.length*N:=Nat.mul_le_mul_right _ hlt;grind
 ·rw [<-hv];unfold toV;cases ag with
  | true=>simp only [if_true];grind [dO]
  | false=>simp only [Bool.false_eq_true,if_false];grind [wx]
def wO (P:Program) (st:St):ResultVar->Option V
 | .tmp t=>some (st.get t)
 | .cell t T=>match rR P T st [] (st.get t)with
   | some (_,v)=>some v
   | none=>none
def dV (P:Program) (st:St):List ResultVar->Option (List V)
 | []=>some []
 | x::xs=>match wO P st x,dV P st xs with
   | some v,some vs=>some (v::vs)
   | _,_=>none
def AaB (P:Program) (st:St):List ResultVar->Option V
 | [x]=>wO P st x
 | xs=>match dV P st xs with
   | some vs=>some (.tup vs)
   | none=>none
theorem XO {P:Program} {st:St} {x:ResultVar} {v:V} (h:wO P st x=some v):(Pq P st x).1/\(Pq P st x).2=v:=by
 cases x with
 | tmp t=>simp only [wO,Option.some.injEq]at h;exact⟨trivial,h⟩
 | cell t T=>
   simp only [wO]at h;split at h
   ·rename_i l u hl;injection h with h;subst h;have:=U9 hl;exact⟨this.2.1,this.2.2⟩
   ·cases h
theorem Vd {P:Program} {st:St}: ∀ {xs:List ResultVar} {vs:List V},dV P st xs=some vs->(Cy P st xs).1/\(Cy P st xs).2=vs
 | [],vs,h=>by simp only [dV,Option.some.injEq]at h;subst h;exact⟨trivial,rfl⟩
 | x::xs,vs,h=>by
   simp only [dV]at h;split at h
   ·rename_i v us h1 h2;injection h with h;subst h;have a:=XO h1;have b:=Vd h2;exact⟨⟨a.1,b.1⟩,by simp only [Cy,a.2,b.2]⟩
   ·cases h
theorem kS {P:Program} {st:St} {x:ResultVar}:(Rh P st x).1=(Pq P st x).1/\(Rh P st x).2=BC st (Pq P st x).2:=by cases x<;>exact⟨rfl,rfl⟩
theorem dW {P:Program} {st:St}: ∀ {xs:List ResultVar},(FR P st xs).1=(Cy P st xs).1/\(FR P st xs).2=(Cy P st xs).2.map (BC st)
 | []=>⟨rfl,rfl⟩
 | x::xs=>by have a:=kS (P:=P) (st:=st) (x:=x);have b:=dW (P:=P) (st:=st) (xs:=xs);simp only [FR,Cy,a.1,a.2,b.1,b.2,map_cons,and_self]
def AcM (st:St) (rs:List ResultVar):V->V
 | .tup vs=>match rs with
   | [_]=> .tup vs
   | _=> .tup (vs.map (BC st))
 | v=>BC st v
theorem AaC {P:Program} {st:St} {rs:List ResultVar} {v r:V} {e:Exit} (he:e= .normal \/e= .ret) (h:AaB P st rs=some v) (hs:AcM st rs v=r) (hp:r.pure=true) {r':V} (hr:r=r'):
 (e= .normal \/e= .ret)/\(D0 P st rs).1/\(D0 P st rs).2.pure =true/\(D0 P st rs).2=r':=by
 subst hr;have key:(D0 P st rs).1/\(D0 P st rs).2=r:=by
  match rs with
  | [x]=>
    have a:=XO h;have b:=kS (P:=P) (st:=st) (x:=x);simp only [D0];rw [b.1,b.2,a.2, <-hs];exact⟨a.1,by cases v<;>rfl⟩
  | []=>
    simp only [AaB,dV,Option.some.injEq]at h;subst h;subst hs;exact⟨trivial,rfl⟩
  | x::y::xs=>
    simp only [AaB]at h;split at h
    ·rename_i vs hv;injection h with h;subst h;have a:=Vd hv;have b:=dW (P:=P) (st:=st) (xs:=x::y::xs);simp only [D0];rw [b.1,b.2,a.2, <-hs];exact⟨a.1,rfl⟩
    ·cases h
 grind
def Ve:List Bool->List V->List V
 | [],_=>[]
 | true::m,v::vs=>v::Ve m vs
 | false::m,_::vs=> .undef ::Ve m vs
 | _::_,[]=>[]
theorem rY: ∀ {m:List Bool} {l l':List V},m.length=l.length->Ve m l=l'->kA l l'
 | [],[],l',_,h=>by simp only [Ve]at h;subst h;trivial
 | true::m,v::vs,l',hl,h=>by simp only [Ve]at h;subst h;exact⟨.inr rfl,rY (by grind) rfl⟩
 | false::m,v::vs,l',hl,h=>by simp only [Ve]at h;subst h;exact⟨.inl rfl,rY (by grind) rfl⟩
 | [],_::_,_,hl,_=>by simp at hl
 | _::_,[],_,hl,_=>by simp at hl
section
variable {P:Program} {F:Fr} {st:St}
end
def FU:Nat:=9223372036854775807
theorem wP {α:Type} [Inhabited α] {l:List α} {i:Int} {x:α} {e:α->List C} {N:Nat} {o n base:Nat} {ag:Bool} {v:V} {off:Nat} {cs pre post:List C} (hcs:cs=pre++(l.flatMap e++post)) (hb:pre.length=base) (hx:idx l i=some x) (hN: ∀ y,(e y).length =N) (acX:off=base+(i.toNat*N+o)) (ho:o+n<=N) (h0:ag=true\/0<n)
 (hv:toV ag o n (e x)=v):off+n<=cs.length/\toV ag off n cs=v:=by
 obtain⟨h1,h2⟩:=rX hx hN rfl ho h0 hv;subst hcs acX hb;constructor
 ·grind
 ·rw [<-h2];unfold toV;cases ag with
  | true=>
    simp only [if_true];rw [<-drop_drop,drop_left,List.drop_append_of_le_length (by omega),List.take_append_of_le_length (by simp only [List.length_drop];omega)]
  | false=>
    grind
end Go.PL
namespace Go.PL
open Go Go.RowKit
def AiC (ids:List Ah) (st:St):St:={st with so:=ids.filterMap fun i=>st.so.find? fun e=>e.id==i}
def Ajp (P:Program) (I:World->Prop) (ops:Array Oper) (ss:List Stp) (ids:List Ah) (st:St) (i:Nat):Option (List Prop×St):=
 match ops[i]?,ss[i]? with
 | some o,some s=>match kP P I false ops o s st with
   | some (c,d_)=>some (c,AiC ids d_)
   | none=>none
 | _,_=>none
section
variable {P:Program} {F:Fr} {st:St} {ops:Array Oper}
theorem dX {a:Act} {w:World} {G:AJ} (h:R F st a w G) {o:Oper} {K:St->Prop} {Q:Exit->Act->World->Prop} (hs:dG P F.I ops o st K):
 if Region.wanted o (yielded ops a.tmps)=true then o.wp P a w (ot F K) Q else ot F K (a.put o.dst Go.undef) w:=by
 unfold dG at hs;split at hs
 ·rename_i hg;rw [FQ hg,if_pos rfl];exact OS h hs
 ·rename_i j want hg;split at hs
  ·rename_i g hq;rw [Jp h hg hq];exact dJ h hs
  grind
end
end Go.PL
namespace Go.PL
open Go Go.RowKit
section
variable {P:Program} {I:World->Prop} {ops:Array Oper} {st d_:St} {K:St->Prop}
theorem dY: ∀ {l:List Oper} {n:Nat} {ss:List Stp} {st d_:St} {cs:List Prop},HL P I false ops (l.take n) ss st=some (cs,d_)->Bd cs->E5 P I ops (l.drop n) d_ K->E5 P I ops l st K
 | l,0,ss,st,d_,cs,h,hc,hK=>by
   cases ss with
   | nil=>
     simp only [List.take_zero,HL,Option.some.injEq,injEq]at h;grind
   | cons=>simp [HL]at h
 | [],n+1,ss,st,d_,cs,h,hc,hK=>by
   cases ss with
   | nil=>
     simp only [List.take_nil,HL,Option.some.injEq,injEq]at h;grind
   | cons=>simp [HL]at h
 | o::l,n+1,[],st,d_,cs,h,hc,hK=>by simp [HL]at h
 | o::l,n+1,s::ss,st,d_,cs,h,hc,hK=>by
   simp only [List.take_succ_cons,HL]at h;split at h
   ·rename_i l1 st1 h1;split at h
    ·rename_i l2 st2 h2;simp only [Option.some.injEq,injEq]at h;obtain⟨rfl,rfl⟩:=h;obtain⟨q1,q2⟩:=Aj.1 hc;exact kQ (K:=fun s=>E5 P I ops l s K) h1 q1 (dY h2 q2 (by simpa using hK))
    ·cases h
   ·cases h
theorem Run.part {l:List Oper} (n:Nat) {ss:List Stp} {cs:List Prop} (d_:St) (h:HL P I false ops (l.take n) ss st=some (cs,d_)) (hc:Bd cs) (hK:E5 P I ops (l.drop n) d_ K):E5 P I ops l st K:=dY h hc hK
theorem Run.whole {l:List Oper} {ss:List Stp} {cs:List Prop} (d_:St) (h:HL P I false ops l ss st=some (cs,d_)) (hc:Bd cs) (hK:K d_):E5 P I ops l st K:=gK h hc hK
theorem Run.inl {l rest:List Oper} {o:Oper} (hl:l=o::rest) (hg:o.guard=none) (h:E4 P I o st (fun d_=>E5 P I ops rest d_ K)):E5 P I ops l st K:=by subst hl;simp only [E5,dG,hg];exact .inl h
end
end Go.PL
namespace Go.PL
open Go Go.RowKit
def Ju (l:List Int):List UInt8:=l.map fun n=>UInt8.ofNat n.toNat
theorem Mn: ∀ {l:List Int},(∀ n∈l,0<=n/\n<256)->Kg (l.flatMap (eI .u8))
 | [],_=>trivial
 | n::l,h=>by rw [flatMap_cons];exact⟨h n (by simp),Mn (fun m hm=>h m (by simp [hm]))⟩
theorem NL: ∀ (l:List Int),Mg (l.flatMap (eI .u8))=Ju l
 | []=>rfl
 | n::l=>by rw [flatMap_cons];show UInt8.ofNat n.toNat::Mg (l.flatMap (eI .u8))=_;rw [NL l];rfl
end Go.PL
namespace Go.PL
open Go Go.RowKit
theorem XP {α:Type} (e:α->List C) {N:Nat} (hN: ∀ y,(e y).length =N): ∀ (l:List α) (k:Nat) (x:α),l[k]? =some x->l.flatMap e=(l.take k).flatMap e++(e x++(l.drop (k+1)).flatMap e)/\((l.take k).flatMap e).length =k*N
 | [],k,x,h=>by simp at h
 | a::l,0,x,h=>by grind
 | a::l,k+1,x,h=>by
   obtain⟨h1,h2⟩:=XP e hN l k x (by simpa using h);constructor
   ·rw [flatMap_cons,h1];simp [append_assoc]
   ·simp [h2,hN,Nat.add_mul];omega
theorem dZ {α:Type} (e:α->List C): ∀ (l:List α) (k:Nat) (x':α),k<l.length->(l.set k x').flatMap e=(l.take k).flatMap e++(e x'++(l.drop (k+1)).flatMap e)
 | [],k,x,h=>by simp at h
 | a::l,0,x,h=>by simp
 | a::l,k+1,x,h=>by rw [List.set_cons_succ,flatMap_cons,dZ e l k x (by simpa using h)];simp [append_assoc]
theorem AdP {α:Type} [Inhabited α] {l:List α} {i:Int} {x x':α} {e:α->List C} {N o off:Nat} {cs pre post:List C} (hx:idx l i=some x) (hN: ∀ y,(e y).length =N) (acX:off=pre.length+(i.toNat*N+o)) (ho:o+cs.length<=N)
 (hx':(e x).take o++(cs++(e x).drop (o+cs.length))=e x'):off+cs.length<=(pre++(l.flatMap e++post)).length /\
  (pre++(l.flatMap e++post)).take off++cs++(pre++(l.flatMap e++post)).drop (off+cs.length)=pre++((l.set i.toNat x').flatMap e++post):=by
 have hb:=Rm hx;have hlt:i.toNat<l.length:=by omega
 have hk:l[i.toNat]? =some x:=by rw [kR hx,List.getElem?_eq_getElem hlt,getD_eq_getElem?_getD,List.getElem?_eq_getElem hlt];rfl
 obtain⟨h1,h2⟩:=XP e hN l i.toNat x hk;have h3:=dZ e l i.toNat x' hlt;have hex:=hN x;rw [h1,h3, <-hx'];subst acX;generalize (l.take i.toNat).flatMap e=A at *;generalize (l.drop (i.toNat+1)).flatMap e=B at *;generalize e x=X at *;constructor
 ·grind
 ·have e1:pre++(A++(X++B)++post)=(pre++(A++X.take o))++((X.drop o).take cs.length++(X.drop (o+cs.length)++(B++post))):=by grind [drop_drop,take_append_drop]
  have l1:(pre++(A++X.take o)).length =pre.length+(i.toNat*N+o):=by grind
  have l2:((X.drop o).take cs.length).length =cs.length:=by grind
  generalize (X.drop o).take cs.length=M at *;generalize X.drop (o+cs.length)=Z at *;rw [e1, <-l1,List.take_left, <-drop_drop,drop_left, <-l2,drop_left];grind
theorem wQ {α:Type} [Inhabited α] {l l':List α} {i:Int} {x x':α} {e:α->List C} {N o off base:Nat} {c0 c1 cs pre post:List C} (hc0:c0=pre++(l.flatMap e++post)) (hb:pre.length=base) (hc1:c1=pre++(l'.flatMap e++post)) (hl:l'=l.set i.toNat x') (hx:idx l i=some x) (hN: ∀ y,(e y).length =N)
 (acX:off=base+(i.toNat*N+o)) (ho:o+cs.length<=N) (hx':(e x).take o++(cs++(e x).drop (o+cs.length))=e x'):off+cs.length<=c0.length/\c0.take off++cs++c0.drop (off+cs.length)=c1:=by
 subst hc0 hc1 hl hb;exact AdP hx hN acX ho hx'
end Go.PL
namespace Go.PL
open Go Go.RowKit
def M_:Nat->Nat->List (Nat×V)->List V
 | 0,_,_=>[]
 | n+1,i,[]=> .undef ::M_ n (i+1) []
 | n+1,i,(j,v)::l=>match Nat.beq i j with
   | true=>v::M_ n (i+1) l
   | false=> .undef ::M_ n (i+1) ((j,v)::l)
def V.ape:V->Bool
 | .undef =>false
 | _=>true
def AcN (st d_:St):St:=⟨Ve (d_.tm.map V.ape) st.tm,st.so.filter (fun e=>d_.so.any fun e'=>e'.id==e.id),Ve (d_.gh.map V.ape) st.gh,st.pre⟩
def AdQ (st d_:St):Bool:=Nat.beq d_.tm.length st.tm.length&&Nat.beq d_.gh.length st.gh.length
theorem uq {st d_:St} (hl:AdQ st d_=true):CH st (AcN st d_):=by simp only [AdQ,and_eq_true]at hl;have a:=(rY (m:=d_.tm.map V.ape) (l:=st.tm) (by simp_all) rfl).get;have b:=(rY (m:=d_.gh.map V.ape) (l:=st.gh) (by simp_all) rfl).get;exact⟨a.1,a.2,fun _ he=>(mem_filter.1 he).1,fun hn=>List.Sublist.nodup (List.Sublist.map (fun d:AB=>d.id) filter_sublist) hn,b,rfl⟩
def rZ (st d_:St):Option St:=match AdQ st d_ with
 | true=>some (AcN st d_)
 | false=>none
theorem CH.t {st d_:St} (h:rZ st d_=some d_):CH st d_:=by grind [rZ,uq]
def Vf (o:Option (List Prop×St)) (d_:St):Option (List Prop×St):=
 match o with
 | some (cs,st)=>match rZ st d_ with
   | some s=>some (cs,s)
   | none=>none
 | none=>none
theorem pe {o:Option (List Prop×St)} {d_:St} {cs:List Prop} (h:Vf o d_=some (cs,d_)): ∃ st,o=some (cs,st)/\CH st d_:=by
 unfold Vf at h;split at h
 ·rename_i cs' st;split at h
  ·rename_i s hs;simp only [Option.some.injEq,injEq]at h;obtain⟨rfl,rfl⟩:=h;exact⟨st,rfl,CH.t hs⟩
  ·cases h
 ·cases h
section
variable {P:Program} {F:Fr} {st:St}
theorem Aq.rg {id:Nat} {l:List Oper} {c:Code} {Q:Exit->St->Prop} {ss:List Stp} {cs:List Prop} (d_:St) (hr:Vf (HL P F.I false l.toArray l ss st) d_=some (cs,d_)) (hl:Bd cs) (h:Aq P F c d_ Q):Aq P F (.seq (.region id l.toArray false) c) st Q:=by obtain⟨st1,h1,h2⟩:=pe hr;exact Aq.seq (Aq.reg h1 hl (Aq.less h2 h))
end
abbrev vB (b:Bool):V:= .c (.bool b)
abbrev vS (s:List UInt8):V:= .c (.str s)
abbrev vO (i:Ah):V:= .c (.n_ i)
abbrev vL {α:Type} (e:α->List C) (l:List α):V:= .c (.sl l.length (l.flatMap e))
abbrev vA {α:Type} (e:α->List C) (x:α):V:= .agg (e x)
abbrev ur {α:Type} (i:Ah) (E N:Nat) (e:α->List C) (l:List α):AB:=⟨i,some (E,N,l.length),l.flatMap e,true⟩
end Go.PL
namespace Go.PL
end Go.PL
namespace Go.PL
open Go Go.RowKit
def St.setCell (st:St) (i:Ah) (j:Nat) (c:C):St:={st with so:=st.so.map fun e=>if e.id==i&& !e.pu then⟨e.id,e.row,e.cs.set j c,false⟩else e}
def St.ajl (st:St) (i:Ah) (j:Nat):Bool:=
 match st.look i with
 | some e=> !e.pu&&(match e.cs[j]? with
   | some .Tv =>true
   | _=>false)
 | none=>false
theorem Ql {w:World} {G:AJ}: ∀ {cs:List C} {b o j:Nat} {c:C},Am w G cs b o->(∀ v d,cs[j]? =some d->Af w G d v->Af w G c v)->Am w G (cs.set j c) b o
 | [],_,_,_,_,h,_=>by grind
 | d::cs,b,o,0,c,h,hc=>by grind [Am]
 | d::cs,b,o,j+1,c,h,hc=>by simp only [Am]at h;simp only [List.set_cons_succ,Am];exact⟨h.1,Ql h.2 (fun v d hd=>hc v d (by simpa using hd))⟩
theorem R.setCell {F:Fr} {st:St} {a:Act} {w:World} {G:AJ} (h:R F st a w G) {i k:Ah} {j:Nat} (hn:st.ajl i j=true) (hk:G.own k=some (.slice none 0 0)):R F (st.setCell i j (.n_ k)) a w G:={
 dfr:=h.dfr,size:=h.size,M_:=h.M_,Tk:=h.Tk
 store:=by
  intro e' he';simp only [St.setCell,mem_map]at he';obtain⟨e,he,rfl⟩:=he';split
  ·rename_i hc;simp only [and_eq_true,beq_iff_eq,not_eq_true']at hc;have hE:=h.store e he;have hee: ∃ x,st.look i=some x/\x=e:=by
    unfold St.ajl at hn;cases hl:st.look i with
    | none=>grind
    | some x=>
      refine⟨x,rfl,?_⟩;obtain⟨hm,hid⟩:=Bi hl;have hp:=List.pairwise_map.1 h.nodup;rcases mem_iff_getElem.1 hm with ⟨p,hp1,rfl⟩;rcases mem_iff_getElem.1 he with ⟨q,hq1,rfl⟩;grind [List.pairwise_iff_getElem]
   obtain⟨x,hx,rfl⟩:=hee;have arL:x.cs[j]? =some .Tv :=by unfold St.ajl at hn;grind
   have hc': ∀ v d,x.cs[j]? =some d->Af w G d v->Af w G (.n_ k) v:=by intro v d hd hr;rw [arL]at hd;injection hd with hd;subst hd;simp only [Af]at hr ⊢;subst hr;exact⟨hk,rfl⟩
   unfold Ba at hE ⊢;simp only;split at hE
   ·rename_i hrn;obtain⟨b,h1,hbx⟩:=hE;obtain⟨T,cur,h2,h3,h4⟩:=hbx.cells (WU hx hrn);exact⟨b,h1, .inr ⟨T,cur,h2,by simpa using h3,Ql h4 hc'⟩⟩
   ·obtain⟨hl,v,h1,h2⟩:=hE;refine⟨by grind,v,h1,?_⟩;rcases h2 with h2 | ⟨b,cap,cur,e1,e2,e3,e4,e5,e6,e7⟩
    ·grind
    ·exact .inr ⟨b,cap,cur,e1,e2,e3,e4,e5,e6,Ql e7 hc'⟩
  ·exact h.store e he
 deep:=by
  intro e' he';simp only [St.setCell,mem_map]at he';obtain⟨e,he,rfl⟩:=he';split
  ·rename_i hc;simp only [and_eq_true,beq_iff_eq,not_eq_true']at hc;exact⟨(h.deep e he).1,fun hq=>absurd ((h.deep e he).2 hq).1 (by simp [hc.2])⟩
  ·exact h.deep e he
 P_:=by
  intro e' he';simp only [St.setCell,mem_map]at he';obtain⟨e,he,rfl⟩:=he';split
  ·grind
  ·exact h.P_ e he
 nodup:=by
  have:((st.setCell i j (.n_ k)).so.map (·.id))=st.so.map (·.id):=by simp only [St.setCell,map_map];apply List.map_congr_left;grind
  rw [this];exact h.nodup
 inj:=h.inj,lt:=h.lt,new:=h.new,wr:=h.wr,abi:=h.abi,inv:=h.inv,aaI:=h.aaI,os:=h.os,tape:=h.tape,output:=h.output,L_:=h.L_,ext:=h.ext}
end Go.PL
namespace Go.PL
open Go Go.RowKit
theorem aC {p:Prop} {l:List Prop} (h:p) (k:Bd l):Bd (p::l):=⟨h,k⟩
theorem aN:Bd []:=trivial
abbrev sl (n:Nat) (l:List (Nat×V)) (so:List AB):St:=⟨M_ n 0 l,so,[],[]⟩
abbrev sg (n:Nat) (l:List (Nat×V)) (so:List AB) (m:Nat) (g:List (Nat×V)) (p:Ah):St:=⟨M_ n 0 l,so,M_ m 0 g,p⟩
def Mo:List Ah->Bool
 | []=>true
 | i::l=> !(l.contains i)&&Mo l
theorem HM: ∀ {l:List Ah},Mo l=true->l.Nodup
 | [],_=>by simp
 | i::l,h=>by simp only [Mo,and_eq_true,not_eq_true']at h;refine nodup_cons.2 ⟨fun hm=>?_,HM h.2⟩;have:=List.contains_iff_mem.2 hm;rw [h.1]at this;cases this
section
variable {P:Program} {F:Fr} {st:St} {id:Nat} {l:List Oper} {c:Code} {Q:Exit->St->Prop} {cs:List Prop} {K:St->Prop}
theorem Rg (ss:List Stp) (d_:St) (hl:Bd cs) (h:Aq P F c d_ Q) (hr:Vf (HL P F.I false l.toArray l ss st) d_=some (cs,d_):=by kernel_rfl):Aq P F (.seq (.region id l.toArray false) c) st Q:=Aq.rg d_ hr hl h
theorem Rp {I:World->Prop} {ops:Array Oper} (n:Nat) (ss:List Stp) (d_:St) (hc:Bd cs) (hK:E5 P I ops (l.drop n) d_ K) (h:HL P I false ops (l.take n) ss st=some (cs,d_):=by kernel_rfl):E5 P I ops l st K:=Run.part n d_ h hc hK
theorem Rw {I:World->Prop} {ops:Array Oper} (ss:List Stp) (d_:St) (hc:Bd cs) (hK:K d_) (h:HL P I false ops l ss st=some (cs,d_):=by kernel_rfl):E5 P I ops l st K:=Run.whole d_ h hc hK
theorem At (d_:St) (hh:Aq P F c d_ Q) (h:st=d_:=by kernel_rfl):Aq P F c st Q:=h▸hh
theorem bQ {rs:List ResultVar} {e:Exit} {r':V} (v:V) (hr:v=r') (he:e= .normal \/e= .ret :=by first | exact .inr rfl | exact .inl rfl) (h:AaB P st rs=some v:=by kernel_rfl) (hs:AcM st rs v=v:=by kernel_rfl) (hp:v.pure=true:=by kernel_rfl):
 (e= .normal \/e= .ret)/\(D0 P st rs).1/\(D0 P st rs).2.pure =true/\(D0 P st rs).2=r':=AaC he h hs hp hr
end
theorem Tn {K:St->Prop} {Q:Exit->St->Prop} {st:St} (h:K st):Cr K Q .normal st:=h
theorem Tr {K:St->Prop} {Q:Exit->St->Prop} {st:St} (h:Q .ret st):Cr K Q .ret st:=h
theorem g0 (g:Bool):g=true->Bd []:=fun _=>trivial
theorem g1 (g:Bool):g=true->Bd [g=true->g=true]:=fun _=>⟨id,trivial⟩
theorem g2 (g:Bool):g=true->Bd [g=true->g=true,g=true->g=true]:=fun _=>⟨id,id,trivial⟩
section
variable {l:List Prop}
end
section
variable {α:Type} [Inhabited α] {g:Bool} {o:Option α} {x:α} {p:Prop}
theorem c0 (h:gd g o=some x) (k:o=some x->p):g=true->Bd []/\p:=fun hg=>⟨trivial,k (wM h hg)⟩
theorem c1 (h:gd g o=some x) (k:o=some x->p):g=true->Bd [g=true->g=true]/\p:=fun hg=>⟨⟨id,trivial⟩,k (wM h hg)⟩
theorem c2 (h:gd g o=some x) (k:o=some x->p):g=true->Bd [g=true->g=true,g=true->g=true]/\p:=fun hg=>⟨⟨id,id,trivial⟩,k (wM h hg)⟩
theorem c3 (h:gd g o=some x) (k:o=some x->p):g=true->Bd [g=true->g=true,g=true->g=true,g=true->g=true]/\p:=fun hg=>⟨⟨id,id,id,trivial⟩,k (wM h hg)⟩
end
theorem Agv (k:IntKind): ∀ x,(eI k x).length =1:=fun _=>rfl
section
variable {α:Type} [Inhabited α] {l m r:List α} {i:Int} {x:α} {e:α->List C} {N:Nat}
omit [Inhabited α] in
theorem ap1 {b:Nat} (h:app b l m=some r) (e:α->List C):l.length+m.length=r.length/\l.flatMap e++m.flatMap e=r.flatMap e:=(by grind [wN])
end
end Go.PL
namespace Go.PL
open Go Go.RowKit
theorem XQ {id:Ah} {v:V} (h:v.E_ id=false):EZ id v=v:=by simp_all [EZ]
theorem kT {id:Ah}: ∀ {l:List C},BO id l=false->l.map (HJ id)=l
 | [],_=>rfl
 | c::l,h=>by simp only [BO,or_eq_false_iff]at h;rw [map_cons,kT h.2,HJ,if_neg (by simp [h.1])]
def AB.fre (id:Ah) (e:AB):Bool:=e.pu|| !BO id e.cs
theorem AB.agS {id:Ah} {e:AB} (h:e.fre id=true):e.kill id=e:=by obtain⟨i,r,cs,pu⟩:=e;cases pu<;>simp_all [AB.fre,AB.kill,kT]
def Jv:List Nat->Nat->Bool
 | [],_=>false
 | x::l,j=>cond (Nat.beq x j) true (Jv l j)
theorem Fg: ∀ {l:List Nat} {j:Nat},Jv l j=true↔j∈l
 | [],j=>by simp [Jv]
 | x::l,j=>by
   simp only [Jv,mem_cons];cases h:Nat.beq x j
   ·simp only [cond_false,Fg (l:=l)];have:x ≠ j:=fun e=>by simp_all
    grind
   simp_all
def kU (ops:Array Oper) (i:Nat):List Nat:=match ops[i]? with
 | some o=>(o.after.toList.filter (Region.binds .any)).map (·.on)
 | none=>[]
def gM (ops:Array Oper) (pr:List (List Nat)):Bool:=
 (List.range ops.size).all fun i=>(kU ops i).all (fun j=>Nat.blt j i&&Jv (pr.getD i []) j)&&(pr.getD i []).all fun j=>Jv (kU ops i) j||(kU ops i).any fun k=>Jv (pr.getD k []) j
def bv (v:List Bool):Nat->Bool:=fun j=>v.getD j false
section
variable {P:Program} {F:Fr} {ops:Array Oper}
end
end Go.PL
namespace Go.PL
open Go Go.RowKit
def Wk (st d_:St):Prop:= ∀ (F:Fr) (a:Act) (w:World) (G:AJ),R F st a w G-> ∃ G',R F d_ a w G'
theorem Wk.less {st d_:St} (h:CH st d_):Wk st d_:=fun _ _ _ G hR=>⟨G,hR.less h⟩
theorem Wk.trans {a b c:St} (h:Wk a b) (k:Wk b c):Wk a c:=fun F x w G hR=>by obtain⟨G',q⟩:=h F x w G hR;exact k F x w G' q
theorem Wk.frz (st:St) (id:Ah):Wk st (st.freeze id):=fun _ _ _ _ hR=>by obtain⟨G',q,_⟩:=hR.freeze id;grind
theorem wT {st d_:St} (h:rZ st d_=some d_:=by kernel_rfl):Wk st d_:=Wk.less (CH.t h)
section
variable {P:Program} {F:Fr} {st:St}
theorem Aq.wk {c:Code} {d_:St} {Q:Exit->St->Prop} (h:Wk st d_) (hh:Aq P F c d_ Q):Aq P F c st Q:=fun a w G hR=>by obtain⟨G',q⟩:=h F a w G hR;exact hh a w G' q
theorem Aq.axU {X:Type} (S:X->St) (inv:X->Prop) (μ:X->Nat) {c:Code} {Q:Exit->St->Prop} (x0:X) (h0:inv x0) (hl:Wk st (S x0))
 (hb: ∀ x,inv x->Aq P F c (S x) (Cr (fun d_=> ∃ y,inv y/\μ y<μ x/\Wk d_ (S y)) Q)):Aq P F (.loop c) st Q:=by
 refine Aq.loop (X:=X×St) (fun p=>p.2) (fun p=>inv p.1/\Wk p.2 (S p.1)) (fun p=>μ p.1) (x0,st) ⟨h0,hl⟩ (CH.refl _) (fun p hp=>?_);refine(Aq.wk hp.2 (hb p.1 hp.1)).mono fun e d_ q=>?_;cases e<;>simp only [Cr]at q ⊢ <;>try exact q
 obtain⟨y,h1,h2,h3⟩:=q;exact⟨(y,d_),⟨h1,h3⟩,h2,CH.refl _⟩
theorem It {σ ρ:Type} {B:σ->Option (σ⊕ρ)} (S:σ->St) {N:Nat} {s0:σ} {o:ρ} {c:Code} {Q:Exit->St->Prop} (hi:PL.iter B N s0=some o) (hl:Wk st (S s0))
 (hb: ∀ s z,B s=some z->(∀ o',z= .inr o'->o'=o)->Aq P F c (S s) (Cr (fun d_=> ∃ s',z= .inl s'/\Wk d_ (S s')) Q)):Aq P F (.loop c) st Q:=by
 refine Aq.axU (X:=Nat×σ) (fun x=>S x.2) (fun x=>PL.iter B x.1 x.2=some o) (fun x=>x.1) (N,s0) hi hl ?_;intro ⟨n,s⟩ hx;cases n with
 | zero=>simp [PL.iter]at hx
 | succ n=>
   simp only [PL.iter]at hx;cases hB:B s with
   | none=>grind
   | some z=>
     rw [hB]at hx;cases z with
     | inl s'=>
       refine(hb s _ hB (fun o' e=>by cases e)).mono fun e d_ q=>?_;cases e<;>simp only [Cr]at q ⊢ <;>try exact q
       obtain⟨s'',e,hl'⟩:=q;injection e with e;subst e;exact⟨(n,s'),hx,Nat.lt_succ_self _,hl'⟩
     | inr r=>
       simp only [Option.some.injEq]at hx;refine(hb s _ hB (fun o' e=>by injection e with e;rw [<-e];exact hx)).mono fun e d_ q=>?_;cases e<;>simp only [Cr]at q ⊢ <;>try exact q
       grind
theorem Sj {X:Type} (S:X->St) (Φ:X->Prop) {x y:Code} {Q:Exit->St->Prop} (hx:Aq P F x st (Cr (fun d_=> ∃ v,Φ v/\Wk d_ (S v)) Q)) (hy: ∀ v,Φ v->Aq P F y (S v) Q):Aq P F (.seq x y) st Q:=
 Aq.seq (hx.mono fun e d_ q=>by
  cases e<;>simp only [Cr]at q ⊢ <;>try exact q
  grind [Aq.wk])
end
theorem d7 {α:Type} (e:α->List C) (x:α) {z:List C} (hz:z=e x) (hp:0<z.length): ∀ k,Ca z k=(List.replicate k x).flatMap e:=by
 intro k;subst hz;apply List.ext_getElem?;intro i;have hlen:((List.replicate k x).flatMap e).length =k*(e x).length :=by simp_all
 by_cases hi:i<k*(e x).length
 ·have hm:i % (e x).length <(e x).length :=Nat.mod_lt _ hp;have key: ∀ k i,i<k*(e x).length ->((List.replicate k x).flatMap e)[i]? =(e x)[i % (e x).length]? :=by intro k;induction k<;>grind [Nat.mod_eq_of_lt,getElem?_append_right,Nat.mod_eq_sub_mod]
  grind [Ca]
 grind [Ca]
theorem wR {α:Type} {s c:List α} {a b:Int} (h:KS s a b=some c):0<=a/\a<=b/\b<=s.length:=by grind [KS]
theorem wS {α:Type} {s c:List α} {a b:Int} (h:KS s a b=some c):c=(s.drop a.toNat).take (b.toNat - a.toNat):=by grind [KS]
theorem IZ {α:Type} {e:α->List C} {N:Nat} (hN: ∀ x,(e x).length =N): ∀ (l:List α) (k:Nat),(l.flatMap e).drop (k*N)=(l.drop k).flatMap e
 | l,0=>by simp
 | [],k+1=>by simp
 | x::l,k+1=>by rw [flatMap_cons,List.drop_succ_cons, <-IZ hN l k,Nat.succ_mul,add_comm, <-drop_drop];congr 1;rw [<-hN x,drop_left]
theorem G7 {α:Type} {e:α->List C} {N:Nat} (hN: ∀ x,(e x).length =N): ∀ (l:List α) (k:Nat),(l.flatMap e).take (k*N)=(l.take k).flatMap e
 | l,0=>by simp
 | [],k+1=>by simp
 | x::l,k+1=>by rw [flatMap_cons,List.take_succ_cons,flatMap_cons, <-G7 hN l k,Nat.succ_mul,add_comm, <-hN x,List.take_length_add_append]
theorem AiD {α:Type} {l r:List α} {a b:Int} {e:α->List C} {N:Nat} (h:KS l a b=some r) (hN: ∀ x,(e x).length =N):V.c (.sl (b.toNat - a.toNat) (((l.flatMap e).drop (a.toNat*N)).take ((b.toNat - a.toNat)*N)))=vL e r:=by
 have hb:=wR h;rw [IZ hN,G7 hN, <-wS h];have:r.length=b.toNat - a.toNat:=by rw [wS h,List.length_take,List.length_drop];omega
 grind
theorem ap4 {α:Type} {enc:α->List C} {n:Nat} (hn: ∀ x,(enc x).length =n) (l:List α):(l.flatMap enc).length =l.length*n:=Dp hn l
end Go.PL
namespace Go.PL
open Go Go.RowKit
def G8 (s:List UInt8):List Int:=s.map fun b=>(b.toNat:Int)
def sa (P:Program) (dst:TypeId):Option TypeId:=match P.underlying dst with
 | some (.slice e)=>match P.underlying e with
   | some (.int .u8)=>some e
   | _=>none
 | _=>none
theorem pg {P:Program} {dst e:TypeId} (h:sa P dst=some e):P.underlying dst=some (.slice e)/\P.underlying e=some (.int .u8):=by grind [sa]
theorem Rn {w:World} {G:AJ} {e:TypeId} (s:List UInt8): ∀ (l:List UInt8) (k:Nat),s.drop k=l->Am (Lib.bytesWorld w e ⟨s.toArray⟩) G ((G8 l).flatMap (eI .u8)) w.heap.size k
 | [],_,_=>by simp [G8,Am]
 | b::l,k,h=>by
   have hk:k<s.length:=by grind [List.drop_eq_nil_of_le]
   have hb:s.getD k 0=b:=by have:=congrArg (fun l=>l.head?) h;grind [List.head?_drop]
   have hd:s.drop (k+1)=l:=by have:=congrArg List.tail h;simpa using this
   simp only [G8,map_cons,flatMap_cons,eI,cons_append,List.nil_append,Am,Af];refine⟨⟨_,Lib.bytesWorld_cell w e ⟨s.toArray⟩ k (by simpa [ByteArray.size] using hk),?_⟩,Rn s l (k+1) hd⟩;simp only [getD_eq_getElem?_getD]at hb;simp [getD_eq_getElem?_getD,hb]
theorem E4.bytes {P:Program} {I:World->Prop} {o:Oper} {st:St} {K:St->Prop} {x:Operand} {src dst:TypeId} (e:TypeId) (s:List UInt8)
 (ho:o.op= .convert src dst x) (hlen:s.length<=140737488355328) (hK:K (st.put o.dst (vL (eI .u8) (G8 s)))) (ha:st.ev x= .c (.str s):=by kernel_rfl)
 (hs:Eb P src=true:=by kernel_rfl) (hd:sa P dst=some e:=by kernel_rfl):E4 P I o st K:=by
 intro F a w G Q hI hR;obtain⟨h1,h2⟩:=pg hd;have hx:=hR.ev x;rw [ha]at hx;simp only [Ad,Af]at hx;obtain⟨u,hu⟩: ∃ u,P.underlying src=some u:=by unfold Eb at hs;grind
 have J_:(execOp a.eval o).run P w= .ok (.value (.slice (some ⟨w.heap.size,0,none⟩) s.length (grownCap w s.length 0 e))) (Lib.bytesWorld w e ⟨s.toArray⟩):=by simp_all [Lib.run_convert_string_bytes,execOp,ByteArray.size]
 refine AO J_ ⟨_,G,hK,?_⟩;have hb:=Lib.bytesWorld_below w e ⟨s.toArray⟩;refine(hR.same (Ee hb) (Fz hb)).put ?_;have hl:(G8 s).length =s.length:=by simp [G8]
 simp only [Ad,Af,hl];refine⟨(by grind [Cg,eI,Au,C.pure]),_,_,rfl,grownCap_ge _ _ _ _,(by grind [grownCap_le_maxLen,maxLen]),fun h0=>?_, .inr ⟨w.heap.size,0,rfl,fun hw=>absurd (hR.alM hw) (by omega),?_,Rn s s 0 rfl⟩⟩
 all_goals grind [Lib.bytesWorld_size]
end Go.PL
namespace Go.PL
open Go Go.RowKit
theorem E4.aCy {P:Program} {I:World->Prop} {o:Oper} {st:St} {K:St->Prop} {t ty:TypeId} {x:Operand} {len:Nat} {cs:List C}
 (ho:o.op= .binOp .eql t x (.const (.slice none 0 0)) ty) (hK: ∀ b,(b=true->len=0)->K (st.put o.dst (vB b)))
 (hx:st.ev x= .c (.sl len cs):=by kernel_rfl) (ht:D6 P t=true:=by kernel_rfl):E4 P I o st K:=by
 intro F a w G Q hI hR;obtain⟨e,hu⟩:=EQ ht;have hv:=hR.ev x;rw [hx]at hv;simp only [Ad,Af]at hv;obtain⟨_,p,cap,he,_,_,_,hz⟩:=hv;have J_:(execOp a.eval o).run P w= .ok (.value (.bool p.isNone)) w:=by have hq:=run_equal_slice_nil (P:=P) w t e p len cap hu;have hc:a.eval (.const (.slice none 0 0))= .slice none 0 0:=rfl;simp_all [execOp,eqGuard,binOp]
 refine AO J_ ⟨_,G,hK p.isNone (fun hp=>?_),hR.put (by simp only [Ad,Af])⟩;grind
end Go.PL
namespace Go.PL
open Go Go.RowKit
structure Cu (P:Program) (I:World->Prop) (f:FuncId) (args:List V) (E n:Nat) (Q:Nat->List C->Prop):Prop where
 ent:ent P f=true
 run: ∀ (w:World) (vs:Array Value) (av:Nat->Prop),I w->(∀ b,av b->b<w.heap.size)->Aw w (im av) args vs.toList->
  Calls P f vs w (fun e w'=> ∃ v len cs us,e= .returned v/\Q len cs/\Au cs=true/\cs.length=len*n/\
   ((∃ p,v= .slice p 0 0/\len=0)\/Ai w' (im fun b=>av b\/v.ownBlock=some b) cs us/\w'.ownsRow w.heap.size E n v len us)/\Below w.heap.size w w')
def AiE (st:St) (t:Nat) (E n:Nat) (Q:Nat->List C->Prop):Prop:=
 (∃ id e len,st.get t= .c (.n_ id)/\st.look id=some e/\e.row=some (E,n,len)/\Au e.cs=true/\Q len e.cs)\/(st.get t= .c .Tv /\Q 0 [])
theorem Cu.of {P:Program} {I:World->Prop} (hst:Ik I) {f:FuncId} {fn:Func} {c:Code} {args:List V} {E n t m:Nat} {Q:Nat->List C->Prop} (abR:PL.ent P f=true) (hf:P.funcs[f]? =some fn) (hb:fn.body=some c)
 (hr:fn.results= #[.tmp t]) (hn:fn.ntmps=m)
 (h: ∀ w0 av old gv,Aq P ⟨w0,av,old,I,gv⟩ c (St.start args m) (fun e d_=>(e= .normal \/e= .ret)/\AiE d_ t E n Q)):Cu P I f args E n Q:=by
 refine⟨abR,fun w vs av hI hav acY=>calls_of_wp hf hb ?_⟩;subst hn;have hR:=R.start hst hI hav acY fn.ntmps;refine Code.wp_mono (fun e a' w' ⟨d_,G',⟨he,q⟩,hR'⟩=>?_) (h _ _ _ _ _ _ _ hR);have fin:a'.defers=[]/\ ∃ v,(results fn a'.tmps).run P w'= .ok v w'/\(fun(e:Ending) w''=> ∃ v len cs us,e= .returned v/\Q len cs/\Au cs=true/\cs.length=len*n/\
  ((∃ p,v= .slice p 0 0/\len=0)\/Ai w'' (im fun b=>av b\/v.ownBlock=some b) cs us/\w''.ownsRow w.heap.size E n v len us)/\Below w.heap.size w w'') (.returned v) w':=by
  have aDf:(results fn a'.tmps).run P w'= .ok (a'.tmps.getD t Go.undef) w':=by simp_all [FS,Jr]
  refine⟨hR'.dfr,_,aDf,?_⟩;have azq:=hR'.below (fun _ hx=>hx);have hsl:=hR'.M_ t;rcases q with ⟨id,e,len,q1,q2,q3,q4,q5⟩ | ⟨q1,q2⟩
  ·have apZ:Ad w' G' (d_.get t) (a'.tmps.getD t Go.undef):=hsl;rw [q1]at apZ;simp only [Ad,Af]at apZ;obtain⟨hm,hid⟩:=Bi q2;obtain⟨v,us,k1,k2,k3,k4⟩:=Dy q3 (hR'.store e hm);have hE:=hR'.store e hm;have hl:e.cs.length=len*n:=by grind [Ba]
   rw [hid]at k1;rw [k1]at apZ;have hv:v=a'.tmps.getD t Go.undef:=by grind
   refine⟨_,len,e.cs,us,rfl,q5,q4,hl,?_,azq⟩;rw [<-hv];rcases k4 with ⟨k4,k5⟩ | ⟨p,rfl,k5,_⟩
   ·refine .inr ⟨Ai.mono (G:=G') ⟨le_refl _,fun _ _ _=>rfl,fun b _ hw=>?_,fun _ _ _ _=>B7.same rfl⟩ _ _ (fun i hi=>absurd (show BO i e.cs=true from hi) (by rw [AU i e.cs q4];simp)) k3,?_⟩
    ·rw [hR'.wr];have hw':av b\/v.ownBlock=some b:=hw;grind
    ·refine⟨k4.1,?_⟩;rcases k4.2 with ⟨q,h0⟩ | ⟨g,cap,cur,q,z1,z2,z3,z4,z5,z6⟩
     ·grind
     ·refine .inr ⟨g,cap,cur,q,?_,z2,z3,z4,z5,z6⟩;have hg:G'.y_ e.id=some g:=by rw [<-k5,q];rfl
      rcases hR'.new _ _ hg with q' | q'
      all_goals grind
   grind
  ·have apZ:Ad w' G' (d_.get t) (a'.tmps.getD t Go.undef):=hsl;rw [q1]at apZ;simp only [Ad,Af]at apZ;exact⟨_,0,[],[],rfl,q2,rfl,by simp,(by grind),azq⟩
 rcases he with rfl | rfl<;>exact fin
end Go.PL
namespace Go.PL
open Go Go.RowKit
theorem Cu.flat {P:Program} {I:World->Prop} {f:FuncId} {args:List V} {E n k:Nat} {ds:List C} (h:Cu P I f args E n (fun len cs=>len=k/\cs=ds)):CZ P I f args (· = .c (.sl k ds)):=by
 refine⟨h.ent,fun w vs av hI hav hr=>(h.run w vs av hI hav hr).mono ?_⟩;rintro e w' ⟨v,len,cs,us,he,⟨rfl,rfl⟩,hp,hl,hv,hb⟩;refine⟨v,_,he,rfl,by simp only [V.pure,C.pure],?_,hb⟩;simp only [Ad,Af];refine⟨hp,?_⟩;rcases hv with ⟨p,rfl,rfl⟩ | ⟨hr,aaK⟩
 ·grind
 ·have h0:len=0->cs=[]:=fun h0=>(by simp_all);rcases aaK.2 with ⟨q,q0⟩ | ⟨g,cap,cur,q,z1,z2,z3,z4,z5,z6⟩
  ·grind
  ·refine⟨_,cap,q,z3,z4,h0, .inr ⟨g,0,rfl,fun ha=>?_,(by grind),?_⟩⟩
   ·have:=hav g ha;omega
   ·refine Am.aaY (vs:=us) ?_ (by grind [BA,take_append_drop]);exact Ai.mono (G:=im fun b=>av b\/v.ownBlock=some b) ⟨le_refl _,fun _ _ _=>rfl,fun b _ hw=> .inl hw,fun _ _ _ _=>B7.same rfl⟩ _ _ (fun i hi=>absurd (show BO i cs=true from hi) (by rw [AU i cs hp];simp)) hr
end Go.PL
namespace Go.PL
open Go Go.RowKit
section
variable {P:Program} {F:Fr} {st:St}
def wU (Q:Exit->St->Prop):Exit->St->Prop
 | .goto _,_=>False
 | e,st=>Q e st
theorem Aq.label {l:Nat} {Q:Exit->St->Prop} (h:Q .normal st):Aq P F (.label l) st Q:=fun _ _ G hR=>wp_label ⟨st,G,h,hR⟩
theorem Aq.scope {c:Code} {Q:Exit->St->Prop} (h:Aq P F c st (wU Q)):Aq P F (.scope c) st Q:=
 fun a w G hR=>wp_scope_straight (Code.wp_mono (fun e a' w' ⟨d_,G',q,hR'⟩=>by
  cases e<;>simp only [Exit.noGoto,wU]at q ⊢ <;>first
   | exact q.elim
   | grind) (h a w G hR))
end
end Go.PL
namespace Go.PL
open Go Go.RowKit
end Go.PL
namespace Go.PL
open Go Go.RowKit Go.Lib
end Go.PL
namespace Go.PL
open Go Go.RowKit
section
variable {P:Program} {F:Fr} {st:St} {ops:Array Oper}
end
end Go.PL
namespace Go.PL
open Go Go.RowKit
end Go.PL
namespace Go.PL
open Go Go.RowKit Go.MapKept
section
variable {F:Fr} {st:St} {a:Act} {w:World} {G:AJ}
end
section
variable {P:Program} {I:World->Prop} {o:Oper} {st:St} {K:St->Prop}
end
end Go.PL
namespace Go.PL
open Go Go.RowKit
theorem E4.atd {P:Program} {I:World->Prop} {o:Oper} {st:St} {K:St->Prop} {x:Operand} {xs:List Operand} {c:Call} {s:Prop} {vs:List V} {f:FuncId} {cs:List C} {fn:Func} {body:Code} {n:Nat} {rs:List ResultVar} (k:Nat)
 (ho:o.op= .call c) (ae5:c.callee= .value x) (hxs:c.args.toList=xs) (ha:st.args true xs=(s,vs)) (hs:s) (hf:st.ev x= .c (.bmv f cs)) (abR:ent P f=true) (hfn:P.funcs[f]? =some fn) (hb:fn.body=some body) (hn:fn.ntmps=n) (hr:fn.results=rs.toArray)
 (h: ∀ w0 av old gv,Aq P ⟨w0,av,old,I,gv⟩ body (st.enter k (cs.map V.c++vs) n) (inQ P rs st.tm.length st.pre o.dst K)):E4 P I o st K:=by
 intro F a w G Q hI hR;have acY:Aw w G vs (xs.map a.eval):=by have:=hR.args (g:=true) rfl (xs:=xs) (by grind);grind
 obtain⟨arr,hev,hcs⟩: ∃ arr:Array Value,a.eval x= .func (.func f) arr #[]/\Ai w G cs arr.toList:=by have hx:=hR.ev x;grind [Ad,Af]
 have J_:(execOp a.eval o).run P w= .ok (.enter f (arr++(xs.map a.eval).toArray)) w:=by
  have e:c.args.map a.eval=(xs.map a.eval).toArray :=by grind
  grind [execOp,resolve,Deferred.ofValue,invoke,acL]
 unfold Oper.wp Oper.upon;rw [J_];simp only;obtain⟨w0,av,old,I',gv⟩:=F;simp only at hI;subst hI;have aiN:Aw w G (cs.map V.c++vs) (arr++(xs.map a.eval).toArray).toList :=by grind [IA,TC]
 refine calls_of_wp hfn hb ?_;have hR0:=hR.enter k aiN fn.ntmps;rw [hn]at hR0;rw [hn];refine Code.wp_mono (fun e a' w' ⟨d_,G',q,hR'⟩=>?_) (h _ _ _ _ _ _ _ hR0);have hrs:fn.results.toList=rs:=by rw [hr]
 have fin:(Ct P d_ rs).1/\K (d_.back st.tm.length st.pre o.dst (Ct P d_ rs).2)->
  a'.defers=[]/\ ∃ v,(results fn a'.tmps).run P w'= .ok v w'/\ot ⟨w0,av,old,I',gv⟩ K (a.put o.dst v) w':=by
  intro ⟨q1,q2⟩;rw [<-hrs]at q1 q2;obtain⟨v,k1,k2⟩:=Mi hR' (fn:=fn) q1;refine⟨hR'.dfr,v,k1,_,G',q2,?_⟩;exact(R.back hR.dfr rfl hR' hR.size.symm st.pre).put k2
 cases e<;>simp only [inQ]at q<;>first | exact fin q | exact q.elim
end Go.PL
namespace Go.PL
open Go Go.RowKit
def stS:List V->Nat->List Nat->List V
 | [],_,_=>[]
 | v::vs,_,[]=>v::vs
 | v::vs,i,j::l=>match Nat.beq i j with
   | true=> .undef ::stS vs (i+1) l
   | false=>v::stS vs (i+1) (j::l)
def upS:List V->Nat->List (Nat×V)->List V
 | [],_,_=>[]
 | v::vs,_,[]=>v::vs
 | v::vs,i,(j,x)::l=>match Nat.beq i j with
   | true=>x::upS vs (i+1) l
   | false=>v::upS vs (i+1) ((j,x)::l)
inductive Dn where
 | k (n:Nat)
 | s (n:Nat) (l:List (Nat×C))
 | e (x:AB)
def upC:List C->Nat->List (Nat×C)->List C
 | [],_,_=>[]
 | v::vs,_,[]=>v::vs
 | v::vs,i,(j,x)::l=>match Nat.beq i j with
   | true=>x::upC vs (i+1) l
   | false=>v::upC vs (i+1) ((j,x)::l)
def AdR:List AB->Nat->AB
 | [],_=>⟨[],none,[],false⟩
 | e::_,0=>e
 | _::l,n+1=>AdR l n
def soD (old:List AB):List Dn->List AB
 | []=>[]
 | .k n::l=>AdR old n::soD old l
 | .s n c::l=>(match AdR old n with | ⟨i,r,cs,p⟩=>⟨i,r,upC cs 0 c,p⟩)::soD old l
 | .e x::l=>x::soD old l
def u (d:List Nat) (l:List (Nat×V)) (st:St):St:=⟨upS (stS st.tm 0 d) 0 l,st.so,st.gh,st.pre⟩
def uo (d:List Nat) (l:List (Nat×V)) (o:List Dn) (st:St):St:=⟨upS (stS st.tm 0 d) 0 l,soD st.so o,st.gh,st.pre⟩
def nA:Nat->List Stp
 | 0=>[]
 | n+1=> .a ::nA n
section
variable {P:Program} {F:Fr} {st:St} {id:Nat} {l:List Oper} {c:Code} {Q:Exit->St->Prop} {cs:List Prop} {K:St->Prop}
theorem Gg (ss:List Stp) (f:St->St) (hl:Bd cs) (h:Aq P F c (f st) Q) (hr:Vf (HL P F.I false l.toArray l ss st) (f st)=some (cs,f st):=by kernel_rfl):Aq P F (.seq (.region id l.toArray false) c) st Q:=Aq.rg _ hr hl h
theorem Ge (ss:List Stp) (f:St->St) (hl:Bd cs) (h:Q .normal (f st)) (hr:HL P F.I false l.toArray l ss st=some (cs,f st):=by kernel_rfl):Aq P F (.region id l.toArray false) st Q:=Aq.reg hr hl h
theorem hS {x y:Code} {Q:Exit->St->Prop} (h:Aq P F x st (Cr (fun d_=>Aq P F y d_ Q) Q)):Aq P F (.seq x y) st Q:=Aq.seq h
theorem hK (h:Q .normal st):Aq P F .skip st Q:=Aq.skip h
theorem hT (h:K st):Aq P F .skip st (Cr K Q):=Aq.skip h
theorem hR (h:Q .ret st):Aq P F .ret st Q:=Aq.ret h
theorem hE {id:Nat} (h:Q (.exit id) st):Aq P F (.exit id) st Q:=Aq.exit h
theorem hB {id:Nat} {c:Code} {Q:Exit->St->Prop} (h:Aq P F c st (Cc id Q)):Aq P F (.block id c) st Q:=Aq.block h
theorem hO {id:Nat} {ops:Array Oper} {Q:Exit->St->Prop} (h:E5 P F.I ops ops.toList st (Q .normal)):Aq P F (.region id ops false) st Q:=Aq.region h
theorem Te {i:Nat} (h:Q (.exit i) st):Cr K Q (.exit i) st:=h
theorem qN {i:Nat} (h:Q .normal st):Cc i Q .normal st:=h
theorem qX {i:Nat} (h:Q .normal st):Cc i Q (.exit i) st:=Cc.out h
end
section
variable {α:Type} {e x:α}
end
section
variable {α β γ δ ε:Type} {r:ε}
theorem bS2 {o:Option α} {f:α->Option β} {g:α->β->Option ε} (h:(o.bind fun x=>(f x).bind (g x))=some r): ∃ x,o=some x/\ ∃ y,f x=some y/\g x y=some r:=by obtain⟨x,hx,h⟩:=bS h;simp_all [bS]
end
section
variable {P:Program} {F:Fr} {st:St} {K:St->Prop}
theorem iC {cc:Operand} {x y:Code} {Q:Exit->St->Prop} {β:Type} {b:Bool} {X Y:Option β} {r:β} (h:(if b then X else Y)=some r) (h1:X=some r->Aq P F x st Q) (h2:Y=some r->Aq P F y st Q) (hc:st.ev cc= .c (.bool b):=by kernel_rfl):Aq P F (.cond cc x y) st Q:=
 Aq.ifB b hc (by grind) (by grind)
end
theorem CZ.bo {P:Program} {I:World->Prop} (aiK:Ik I) {f:FuncId} {fn:Func} {c:Code} {args:List V} {Q:V->Prop} {n:Nat} (hf:P.funcs[f]? =some fn) (hb:fn.body=some c) (hn:fn.ntmps=n) (rs:List ResultVar)
 (h: ∀ w0 av old gv,Aq P ⟨w0,av,old,I,gv⟩ c (St.start args n) (fun e d_=>(e= .normal \/e= .ret)/\(D0 P d_ rs).1/\(D0 P d_ rs).2.pure =true/\Q (D0 P d_ rs).2))
 (abR:PL.ent P f=true:=by kernel_rfl) (hr:fn.results=rs.toArray:=by kernel_rfl):CZ P I f args Q:=CZ.body aiK abR hf hb hn hr rfl h
end Go.PL
namespace Go.PL
open Go Go.RowKit
end Go.PL
namespace Go.PL
open Go Go.RowKit
def gN (I:World->Prop) (g:Nat) (tab:List (List UInt8)):Prop:= ∀ w,I w-> ∃ T fz,w.heap[g]? =some (.cells (tab.map fun s=>Value.string ⟨s.toArray⟩).toArray T fz)
theorem R.I {F:Fr} {st:St} {a:Act} {w:World} {G:AJ} (h:R F st a w G):F.I w:=h.inv w h.L_ h.ext
theorem kV {I:World->Prop} {g:Nat} {tab:List (List UInt8)} (h:gN I g tab) {w:World} (hw:I w) {i:Nat} (hi:i<tab.length):w.cell? ⟨g,i,none⟩=some (.string ⟨(tab.getD i []).toArray⟩):=by obtain⟨T,fz,hh⟩:=h w hw;grind [World.cell?]
section
variable {P:Program} {I:World->Prop} {o:Oper} {st:St} {K:St->Prop}
theorem E4.azz {t:TypeId} {x:Operand} {g n:Nat} {k:IntKind} {i:Int} {E:TypeId} (ho:o.op= .indexAddr t (.global g) x) (hi:0<=i/\i<n) (hK:K (st.put o.dst (.c (.agZ g i.toNat))))
 (hx:st.ev x= .c (.int k i):=by kernel_rfl) (ht:Gd P t=some (n,E,1):=by kernel_rfl):E4 P I o st K:=by
 intro F a w G Q hI hR;have hxv:=hR.ev x;rw [hx]at hxv;simp only [Ad,Af]at hxv;have J_:(execOp a.eval o).run P w= .ok (.value (.pointer (some ⟨g,i.toNat,none⟩))) w:=by have:=Jg ht g 0 k i hi.1 hi.2 w;rw [Nat.zero_add,Nat.mul_one]at this;have hgl:a.eval (.global g)= .pointer (some ⟨g,0,none⟩):=rfl;simp_all [execOp]
 exact AO J_ ⟨_,G,hK,hR.put (by simp only [Ad,Af])⟩
theorem E4.azy {t:TypeId} {x:Operand} {g off:Nat} {tab:List (List UInt8)} (ho:o.op= .load t x) (hg:gN I g tab) (acX:off<tab.length) (hK:K (st.put o.dst (.c (.str (tab.getD off [])))))
 (hx:st.ev x= .c (.agZ g off):=by kernel_rfl) (ht:KO P t=some (false,1):=by kernel_rfl):E4 P I o st K:=by
 intro F a w G Q hI hR;have hxv:=hR.ev x;rw [hx]at hxv;simp only [Ad,Af]at hxv;obtain⟨d,i,hu,hd,_⟩:=Dl ht;have hc:=kV hg (hI▸hR.I) acX;have J_:(execOp a.eval o).run P w= .ok (.value (.string ⟨(tab.getD off []).toArray⟩)) w:=by simp_all [execOp,DP]
 exact AO J_ ⟨_,G,hK,hR.put (by simp only [Ad,Af])⟩
end
end Go.PL
namespace Go.PL
open Go Go.RowKit
section
variable {α:Type} {l l':List (List α)} {i j:Int} {x:List α} {y y':α} {e:α->List C} {E n:Nat}
end
section
variable {P:Program} {F:Fr} {st:St}
end
end Go.PL
