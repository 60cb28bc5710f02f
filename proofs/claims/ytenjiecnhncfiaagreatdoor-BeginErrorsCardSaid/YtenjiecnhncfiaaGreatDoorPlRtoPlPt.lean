/- The pure logic: PlR, PlU, PlW, PlS, PlT, PlV, PlX, PlXd, PlXe, PlXf, PlY, PlZ, PlPe, PlPf, PlPg, PlPh, PlPi, PlPj, PlPk, PlPm, PlPn, PlPo, PlPp, PlPr, PlPt. -/
import Derived.Test.YtenjiecnhncfiaaGreatDoorPlAtoPlQ
import Derived.LoopN
import Derived.ProofKit
import Derived.OpenShut
import Derived.Handy
import Derived.Lay
import Derived.LaidSub
import Derived.SevenTiedAt
import Derived.Lib.LaidTab
import Derived.Lib.ConvBytes
import Derived.Lib.AtoiErrMem
import Derived.Laws.Cover3
import Derived.Scope
import Derived.Lib.AppendStr
import Derived.Lib.Builder
import Derived.Lib.UnsafeStr
import Derived.MapKept
open Prod.mk (injEq)
open Bool (and_eq_true or_eq_true not_eq_true' or_eq_false_iff)
open List (map_cons mem_map flatMap_cons all_eq_true mem_filter map_map mem_cons take_append_drop getElem?_append_right drop_drop cons_append getD_eq_getElem?_getD mem_iff_getElem getElem?_set append_assoc all_append filter_sublist mem_of_getElem? drop_left all_cons find?_some nodup_cons)
open Nat (eq_of_beq_eq_true le_refl add_comm add_assoc add_zero)
set_option linter.all false
namespace Go.PL
open Go Go.RowKit
def lb:List V->List V->Prop
 | [],[]=>True
 | a::l,b::m=>(b= .undef \/b=a)/\lb l m
 | _,_=>False
theorem lb.get: ∀ {l m:List V},lb l m->m.length=l.length/\ ∀ i,m.getD i .undef = .undef \/m.getD i .undef =l.getD i .undef
 | [],[],_=>(by grind)
 | a::l,b::m,h=>by
   obtain⟨h1,h2⟩:=h;obtain⟨q1,q2⟩:=lb.get h2;refine⟨by simp [q1],fun i=>?_⟩;cases i with
   | zero=>simpa using h1
   | succ i=>simpa using q2 i
 | [],_::_,h=>h.elim
 | _::_,[],h=>h.elim
theorem zy (a b:Nat):(([a]:List Nat)==[b])=(a==b):=by grind
theorem zz (a b:Nat):(([a]:List Nat) != [b])=(a != b):=by grind
theorem vG (a b c d:Nat):(([a,c]:List Nat)==[b,d])=(a==b&&c==d):=by grind
theorem AcU (a b:Nat):(([a]:List Nat)=[b])=(a=b):=by simp
theorem lc (z:List C):Cj z 0=[]:=by simp [Cj]
theorem Wr (z:List C) (k:Nat):Cj z (k+1)=z++Cj z k:=by
 unfold Cj;have e:(k+1)*z.length=z.length+k*z.length:=by grind
 rw [e,List.range_add,List.map_append];congr 1
 ·apply List.ext_getElem<;>simp;grind [Nat.mod_eq_of_lt]
 simp_all
theorem iA (k:IntKind) (l:List Int):Ap (l.map (C.int k))=true:=PI _ (fun _=>rfl) l
theorem iB (l:List (List UInt8)):Ap (l.map C.str)=true:=PI _ (fun _=>rfl) l
theorem dt (l:List Bool):Ap (l.map C.bool)=true:=PI _ (fun _=>rfl) l
theorem Oz {g:C->C} (hg: ∀ c:C,c.pure=true->g c=c): ∀ {l:List C},Ap l=true->l.map g=l
 | [],_=>rfl
 | c::l,h=>by simp only [Ap,and_eq_true]at h;rw [map_cons,hg c h.1,Oz hg h.2]
theorem oX (id:Ak) {c:C} (h:c.pure=true):Ia id c=c:=by simp [Ia,H7 id c h]
theorem oY {l:List C} (id:Ak) (h:Ap l=true):l.map (Ia id)=l:=Oz (fun _ hc=>oX id hc) h
theorem tH {id:Ak} {len:Nat} {cs:List C} {c:C} (h:c.pure=true):KK id len cs c=c:=by cases c<;>simp_all [KK,C.pure,AQ]
theorem tI {id:Ak} {len:Nat} {cs:List C} {l:List C} (h:Ap l=true):l.map (KK id len cs)=l:=Oz (fun _ hc=>tH hc) h
theorem tJ {c:C} (h:c.pure=true):Sd c=[]:=by cases c<;>simp_all [Sd,C.pure]
theorem fa: ∀ {l:List C},Ap l=true->l.flatMap Sd=[]
 | [],_=>rfl
 | c::l,h=>by simp only [Ap,and_eq_true]at h;rw [flatMap_cons,tJ h.1,fa h.2];rfl
attribute [go_sem] B0 iA iB dt oY tI fa AQ
attribute [go_sem] zy zz vG AcU lc Wr Nat.reduceLeDiff Nat.reduceLT le_refl Nat.reduceBEq Nat.reduceBNe Nat.reduceMul Nat.reduceAdd Nat.reduceSub
end Go.PL
namespace Go.PL
open Go Go.RowKit
section
variable {P:Program} {F:Fr} {st:St} {c:Code} {Q:Exit->St->Prop}
end
end Go.PL
namespace Go.PL
open Go Go.RowKit
def Yy (st:St) (x:Operand):Option (FuncId×List C):=
 match st.ev x with
 | .c (.fn f)=>some (f,[])
 | .c (.clo f cs)=>some (f,cs)
 | _=>none
def St.enter (st:St) (k:Nat) (args:List V) (n:Nat):St:=⟨args++List.replicate (n - args.length) .undef,st.so,st.tm++st.gh,k::st.pre⟩
def St.back (st:St) (m:Nat) (pre:Ak) (d:Option Nat) (r:V):St:=(⟨st.gh.take m,st.so,st.gh.drop m,pre⟩:St).put d r
def Qk (P:Program) (st:St):ResultVar->Prop×V
 | .tmp t=>(True,st.get t)
 | .cell t T=>DM P T st (st.get t)
def CF (P:Program) (st:St):List ResultVar->Prop×List V
 | []=>(True,[])
 | x::xs=>((Qk P st x).1/\(CF P st xs).1,(Qk P st x).2::(CF P st xs).2)
def Cy (P:Program) (st:St):List ResultVar->Prop×V
 | [x]=>Qk P st x
 | xs=>((CF P st xs).1, .tup (CF P st xs).2)
section
variable {P:Program} {F:Fr} {st:St} {a:Act} {w:World} {G:AG}
theorem Zc (h:R F st a w G) {x:ResultVar} (hs:(Qk P st x).1): ∃ v,(JT a.tmps x).run P w= .ok v w/\Ae w G (Qk P st x).2 v:=by
 cases x with
 | tmp t=>exact⟨_,rfl,h.z_ t⟩
 | cell t T=>
   simp only [Qk]at hs ⊢;obtain⟨v,q1,q2⟩:=Ot (P:=P) h (h.z_ t) hs;obtain⟨p,axa⟩:=eZ (h.z_ t) hs;refine⟨v,?_,q1⟩;grind [CX.refl,JT,asAddr,Instr.loadAt,Instr.sureAddr]
theorem Ws (h:R F st a w G): ∀ {xs:List ResultVar},(CF P st xs).1-> ∃ vs,(xs.mapM (JT a.tmps)).run P w= .ok vs w/\Aq w G (CF P st xs).2 vs
 | [],_=>(by simp_all [CF,Aq])
 | x::xs,hs=>by simp only [CF]at hs ⊢;obtain⟨v,q1,q2⟩:=Zc h hs.1;obtain⟨vs,k1,k2⟩:=Ws h hs.2;exact⟨v::vs,by simp_all,by simp only [Aq];grind⟩
theorem tK {xs:List ResultVar}:(CF P st xs).2.length =xs.length:=by induction xs<;>grind [CF]
theorem MM (h:R F st a w G) {fn:Func} (hs:(Cy P st fn.results.toList).1): ∃ v,(results fn a.tmps).run P w= .ok v w/\Ae w G (Cy P st fn.results.toList).2 v:=by
 generalize hx:fn.results.toList=xs at hs ⊢
 match xs,hx,hs with
 | [x],hx,hs=>
   simp only [Cy]at hs ⊢;obtain⟨v,q1,q2⟩:=Zc h hs;exact⟨v,by have:=F2 (P:=P) (w:=w) (fn:=fn) (tmps:=a.tmps) (vs:=[v]) (by rw [hx];simp [q1]);grind,q2⟩
 | [],hx,hs=>
   simp_all [Cy,CF,Ae,Aq,F2]
 | x::y::xs,hx,hs=>
   simp only [Cy]at hs ⊢;obtain⟨vs,q1,q2⟩:=Ws h hs;refine⟨.tuple vs.toArray,?_,by simp only [Ae];grind⟩;have:=F2 (P:=P) (w:=w) (fn:=fn) (tmps:=a.tmps) (by rw [hx];exact q1);rw [this];have hl:=EK q2;rw [tK]at hl
   match vs,hl with
   | v::u::vs,_=>rfl
theorem I6 {w:World} {G:AG}: ∀ {xs ys:List V} {us vs:List Value},Aq w G xs us->Aq w G ys vs->Aq w G (xs++ys) (us++vs)
 | [],_,us,_,h,h'=>by grind [Aq]
 | x::xs,ys,us,vs,h,h'=>by simp only [Aq]at h;obtain⟨v,r,rfl,h1,h2⟩:=h;simp only [cons_append,Aq];exact⟨v,r++vs,rfl,h1,I6 h2 h'⟩
theorem Wt {w:World} {G:AG}: ∀ {xs:List V} {us vs:List Value},Aq w G xs (us++vs)->Aq w G (xs.take us.length) us/\Aq w G (xs.drop us.length) vs
 | xs,[],vs,h=>(by grind [Aq])
 | [],u::us,vs,h=>by simp [Aq]at h
 | x::xs,u::us,vs,h=>by simp only [cons_append,Aq]at h;obtain⟨v,r,e,h1,h2⟩:=h;injection e with e1 e2;subst e1 e2;obtain⟨k1,k2⟩:=Wt h2;simp only [List.length_cons,List.take_succ_cons,List.drop_succ_cons,Aq];grind
theorem OA {w:World} {G:AG}: ∀ {xs:List V} {us:List Value},xs.length=us.length->(∀ i,Ae w G (xs.getD i .undef) (us.getD i Go.undef))->Aq w G xs us
 | [],[],_,_=>by simp [Aq]
 | x::xs,u::us,hl,h=>by simp only [Aq];exact⟨u,us,rfl,by simpa using h 0,OA (by grind) (fun i=>by simpa using h (i+1))⟩
 | [],_::_,hl,_=>by simp at hl
 | _::_,[],hl,_=>by simp at hl
theorem UK {w:World} {G:AG}: ∀ {cs:List C} {us:List Value},Al w G cs us->Aq w G (cs.map V.c) us
 | [],[],_=>by simp [Aq]
 | c::cs,u::us,h=>by simp only [Al]at h;simp only [map_cons,Aq];exact⟨u,us,rfl,by grind [Ae],UK h.2⟩
 | [],_::_,h=>by simp [Al]at h
 | _::_,[],h=>by simp [Al]at h
theorem R.enter (h:R F st a w G) (k:Nat) {args:List V} {us:Array Value} (ha:Aq w G args us.toList) (n:Nat):
 R {F with gv:=a.tmps.toList++F.gv} (st.enter k args n) {tmps:=us++Array.replicate (n - us.size) Go.undef,defers:=[]} w G:=by
 have hl:=EK ha;have hl':args.length=us.size:=by grind
 exact {
  dfr:=rfl
  size:=by simp [St.enter,hl']
  z_:=by
   intro i;simp only [St.enter,getD_eq_getElem?_getD,Array.getD_eq_getD_getElem?];by_cases hi:i<args.length
   ·grind [Jn]
   grind [Ae]
  I_:=I6 (OA (by simpa using h.size.symm) (fun i=>by have:=h.z_ i;simp_all)) h.I_
  store:=h.store,deep:=h.deep,B_:=h.B_,nodup:=h.nodup,inj:=h.inj,lt:=h.lt,new:=h.new,wr:=h.wr,aaS:=h.aaS,inv:=h.inv,aaj:=h.aaj
  os:=h.os,tape:=h.tape,output:=h.output,x_:=h.x_,ext:=h.ext}
theorem oZ {w:World} {G:AG} {xs:List V} {us:List Value} (h:Aq w G xs us) (i:Nat):Ae w G (xs.getD i .undef) (us.getD i Go.undef):=by grind [Jn,Ae]
theorem R.back {a':Act} {a_:St} (hd:a.defers=[]) {gv:List Value} (hgv:F.gv=a.tmps.toList++gv) (h:R F a_ a' w G) {m:Nat} (hm:m=a.tmps.size) (pre:Ak):R {F with gv:=gv} ⟨a_.gh.take m,a_.so,a_.gh.drop m,pre⟩ a w G:=by
 have hg:=h.I_;rw [hgv]at hg;obtain⟨h1,h2⟩:=Wt hg;have e:a.tmps.toList.length=m:=by simp [hm]
 rw [e]at h1 h2;exact {
  dfr:=hd
  size:=by grind [EK]
  z_:=fun i=>by have:=oZ h1 i;simp_all
  I_:=h2
  store:=h.store,deep:=h.deep,B_:=h.B_,nodup:=h.nodup,inj:=h.inj,lt:=h.lt,new:=h.new,wr:=h.wr,aaS:=h.aaS,inv:=h.inv,aaj:=h.aaj
  os:=h.os,tape:=h.tape,output:=h.output,x_:=h.x_,ext:=h.ext}
end
def inQ (P:Program) (rs:List ResultVar) (m:Nat) (pre:Ak) (d:Option Nat) (K:St->Prop):Exit->St->Prop
 | .normal,st=>(Cy P st rs).1/\K (st.back m pre d (Cy P st rs).2)
 | .ret,st=>(Cy P st rs).1/\K (st.back m pre d (Cy P st rs).2)
 | _,_=>False
theorem DW.inline {P:Program} {I:World->Prop} {o:Oper} {st:St} {K:St->Prop} {x:Operand} {xs:List Operand} {c:Call} {s:Prop} {vs:List V} {f:FuncId} {cs:List C} {fn:Func} {body:Code} {n:Nat} {rs:List ResultVar} (k:Nat)
 (ho:o.op= .call c) (afx:c.callee= .value x) (hxs:c.args.toList=xs) (ha:st.args true xs=(s,vs)) (hs:s) (hf:Yy st x=some (f,cs)) (abR:ent P f=true) (hfn:P.funcs[f]? =some fn) (hb:fn.body=some body) (hn:fn.ntmps=n) (hr:fn.results=rs.toArray)
 (h: ∀ w0 av old gv,Ag P ⟨w0,av,old,I,gv⟩ body (st.enter k (vs++cs.map V.c) n) (inQ P rs st.tm.length st.pre o.dst K)):DW P I o st K:=by
 intro F a w G Q hI hR;have acQ:Aq w G vs (xs.map a.eval):=by have:=hR.args (g:=true) rfl (xs:=xs) (by grind);grind
 obtain⟨arr,hev,hcs⟩: ∃ arr:Array Value,a.eval x= .func (.func f) #[] arr/\Al w G cs arr.toList:=by
  have hx:=hR.ev x;unfold Yy at hf;split at hf
  ·rename_i f' he;rw [he]at hx;simp only [Option.some.injEq,injEq]at hf;obtain⟨rfl,rfl⟩:=hf;grind [Ae,Ah,Al]
  ·rename_i f' cs' he;rw [he]at hx;simp only [Option.some.injEq,injEq]at hf;obtain⟨rfl,rfl⟩:=hf;grind [Ae,Ah]
  ·cases hf
 have A_:(execOp a.eval o).run P w= .ok (.enter f ((xs.map a.eval).toArray ++arr)) w:=by
  have e:c.args.map a.eval=(xs.map a.eval).toArray :=by grind
  grind [execOp,resolve,Deferred.ofValue,invoke,ab2]
 unfold Oper.wp Oper.upon;rw [A_];simp only;obtain⟨w0,av,old,I',gv⟩:=F;simp only at hI;subst hI;have afX:Aq w G (vs++cs.map V.c) ((xs.map a.eval).toArray ++arr).toList :=by grind [I6,UK]
 refine calls_of_wp hfn hb ?_;have hR0:=hR.enter k afX fn.ntmps;rw [hn]at hR0;rw [hn];refine Code.wp_mono (fun e a' w' ⟨a_,G',q,hR'⟩=>?_) (h _ _ _ _ _ _ _ hR0);have hrs:fn.results.toList=rs:=by rw [hr]
 have fin:(Cy P a_ rs).1/\K (a_.back st.tm.length st.pre o.dst (Cy P a_ rs).2)->
  a'.defers=[]/\ ∃ v,(results fn a'.tmps).run P w'= .ok v w'/\oV ⟨w0,av,old,I',gv⟩ K (a.put o.dst v) w':=by
  intro ⟨q1,q2⟩;rw [<-hrs]at q1 q2;obtain⟨v,k1,k2⟩:=MM hR' (fn:=fn) q1;refine⟨hR'.dfr,v,k1,_,G',q2,?_⟩;exact(R.back hR.dfr rfl hR' hR.size.symm st.pre).put k2
 cases e<;>simp only [inQ]at q<;>first | exact fin q | exact q.elim
end Go.PL
namespace Go.PL
open Go Go.RowKit Go.ChangeShapes Go.WideShapes
theorem Qy {H:Type} {enc:TypeId×Value->H} {P:Program} (hl:laidOutB P=true) {W W':World} (hb:Below W.heap.size W W'):
 ∀ {ts:List TypeId} {vs:List Value} {ds:List (DataW H)} {ps:List MemPlace},(ts.all fun t=>P.readableRec t&&decide (t<P.types.size))=true->DataW.TrodAll enc P W 0 (fun _=>true) true ts vs ds ps->(∀ x∈ps,x.block<W.heap.size)->
   DataW.TrodAll enc P W' 0 (fun b=>decide (b<W.heap.size)) true ts vs ds ps
 | [],_,_,_,_,h,_=>by obtain⟨rfl,rfl,rfl⟩:=trodAll_nil h;exact trodAll_mk0
 | t::ts,_,_,_,hr,h,hlt=>by obtain⟨v,vs1,d,ds1,a,b,rfl,rfl,rfl,h1,h2⟩:=trodAll_cons h;simp only [all_cons,and_eq_true,decide_eq_true_eq]at hr;exact⟨a,b,(by grind [Below.trod]),Qy hl hb hr.2 h2 (fun x hx=>hlt x (by simp [hx])),rfl⟩
theorem Ce.law {P:Program} {I:World->Prop} {f:FuncId} {xs:List V} (h:Ce P I f xs (· = .c (.bool true))) {W:World} (hI:I W) {args:Array Value} (ha:Aq W (im fun _=>False) xs args.toList):
 Calls P f args W fun e W'=>e= .returned (.bool true)/\Below W.heap.size W W':=by
 refine(h.run W args (fun _=>False) hI (fun _ h=>h.elim) ha).mono fun e W' ⟨v,r,he,hr,_,hv,hb⟩=>⟨?_,hb⟩;grind [Ae,Ah]
end Go.PL
namespace Go.PL
open Go Go.RowKit Go.ChangeShapes Go.WideShapes
def UL (R:TypeId->List C->Prop):List TypeId->List (List C)->Prop
 | [],Dg=>Dg=[]
 | t::ts,Dg=> ∃ ds r,Dg=ds::r/\R t ds/\UL R ts r
def Bu (P:Program):Nat->TypeId->List C->Prop
 | 0,_,_=>False
 | n+1,t,cs=>match P.underlying t with
   | some .bool => ∃ b,cs=[.bool b]
   | some (.int k)=> ∃ z,cs=[.int k z]/\(Lit.int k z).wf =true
   | some .string => ∃ s:List UInt8,cs=[.str s]/\s.length<=reachBytes
   | some (.slice e)=> ∃ Dg:List (List C),cs=[.sl Dg.length Dg.flatten]/\Dg.length*P.bytesOf e<=reachBytes/\ ∀ ds∈Dg,Bu P n e ds
   | some (.struct fs)=> ∃ Dg:List (List C),cs=Dg.flatten/\UL (Bu P n) (fs.toList.map (·.type)) Dg
   | some (.array m e)=> ∃ Dg:List (List C),cs=Dg.flatten/\Dg.length=m/\ ∀ ds∈Dg,Bu P n e ds
   | some (.pointer e)=>cs=[.acg]\/ ∃ ds,cs=[.abO ds 0]/\Bu P n e ds
   | some (.interface _)=>cs=[.aas]\/cs=[.held]
   | _=>False
theorem HP: ∀ {Dg:List (List C)},(∀ ds∈Dg,Ap ds=true)->Ap Dg.flatten=true
 | [],_=>rfl
 | ds::Dg,h=>by rw [List.flatten_cons,B0,h ds (by simp),HP (fun d hd=>h d (by simp [hd]))];rfl
theorem fb {R:TypeId->List C->Prop} (hR: ∀ t ds,R t ds->Ap ds=true): ∀ {ts:List TypeId} {Dg:List (List C)},UL R ts Dg-> ∀ ds∈Dg,Ap ds=true
 | [],Dg,h,ds,hd=>by grind [UL]
 | t::ts,Dg,h,ds,hd=>by
   simp only [UL]at h;obtain⟨d,r,rfl,h1,h2⟩:=h;rcases mem_cons.1 hd with rfl | hd
   ·exact hR t _ h1
   ·exact fb hR h2 ds hd
theorem MN {P:Program}: ∀ {n:Nat} {t:TypeId} {cs:List C},Bu P n t cs->Ap cs=true
 | 0,_,_,h=>h.elim
 | n+1,t,cs,h=>by
   unfold Bu at h;split at h
   ·obtain⟨b,rfl⟩:=h;rfl
   ·obtain⟨z,rfl,_⟩:=h;rfl
   ·obtain⟨s,rfl,_⟩:=h;rfl
   ·obtain⟨Dg,rfl,_⟩:=h;rfl
   ·obtain⟨Dg,rfl,h2⟩:=h;exact HP (fb (fun t ds h=>MN h) h2)
   ·obtain⟨Dg,rfl,_,h2⟩:=h;exact HP (fun ds hd=>MN (h2 ds hd))
   ·rcases h with rfl | ⟨ds,rfl,_⟩<;>rfl
   ·rcases h with rfl | rfl<;>rfl
   grind
section
variable {H:Type} {enc:TypeId×Value->H} {P:Program} {w:World} {spare:Nat->Bool}
theorem Zd {G:AG}: ∀ {a b:List C} {u v:List Value},Al w G a u->Al w G b v->Al w G (a++b) (u++v)
 | [],_,[],_,_,h=>h
 | _::_,_,_::_,_,h,h'=>by simp only [Al]at h;simp only [cons_append,Al];exact⟨h.1,Zd h.2 h'⟩
 | [],_,_::_,_,h,_=>by simp [Al]at h
 | _::_,_,[],_,h,_=>by simp [Al]at h
theorem lf {G:AG}: ∀ {a:List C} {u:List Value},Al w G a u->a.length=u.length
 | [],[],_=>rfl
 | _::_,_::_,h=>by simp only [Al]at h;simp [lf h.2]
 | [],_::_,h=>by simp [Al]at h
 | _::_,[],h=>by simp [Al]at h
theorem UM {G:AG} {b:Nat}: ∀ {cs:List C} {ds:List Value} {o:Nat},Al w G cs ds->(∀ j,j<ds.length->w.cell? ⟨b,o+j,none⟩=ds[j]?)->An w G cs b o
 | [],_,_,_,_=>by simp [An]
 | c::cs,d::ds,o,h,hc=>by simp only [Al]at h;simp only [An];refine⟨⟨d,by simpa using hc 0 (by simp),h.1⟩,UM h.2 (fun j hj=>?_)⟩;have:=hc (j+1) (by simp;omega);simpa [add_assoc,add_comm 1 j] using this
 | _::_,[],_,h,_=>by simp [Al]at h
theorem Ze {G:AG} {b:Nat}: ∀ {cs cs':List C} {o:Nat},An w G cs b o->An w G cs' b (o+cs.length)->An w G (cs++cs') b o
 | [],_,_,_,h=>by grind
 | c::cs,cs',o,h,h'=>by simp only [An]at h;simp only [cons_append,An];exact⟨h.1,Ze h.2 (by simpa [add_assoc,add_comm 1] using h')⟩
theorem lg {a:Addr} {n:Nat} {cs:List Value} (hn:0<n) (h:w.cells? 0 a n=some cs):a=⟨a.block,a.off,none⟩/\a.block<w.heap.size/\cs.length=n/\ ∀ j,j<n->w.cell? ⟨a.block,a.off+j,none⟩=cs[j]? :=by
 obtain⟨_,hl,hc⟩:=World.cells?_some h;have h0:=hc 0 hn;obtain⟨b,o,sp⟩:=a;have hsp:sp=none:=by
  cases sp with
  | none=>rfl
  | some x=>
    have e:cs[0]? =some cs[0]:=by grind
    rw [e]at h0;simp only [Addr.add,if_true]at h0;grind [World.cell?]
 subst hsp;refine⟨rfl,World.cells?_block h hn,hl,fun j hj=>?_⟩;grind [Addr.add]
def zB (P:Program):Nat->List Field->Bool
 | _,[]=>true
 | o,f::fs=>f.offset==o&&zB P (o+P.cellsOf f.type) fs
def okT (P:Program):Nat->TypeId->Bool
 | 0,_=>false
 | n+1,t=>match P.underlying t with
   | some .bool =>P.cellsOf t==1
   | some (.int _)=>P.cellsOf t==1
   | some .string =>P.cellsOf t==1
   | some (.slice e)=>P.cellsOf t==1&&decide (0<P.cellsOf e)&&okT P n e
   | some (.struct fs)=>zB P 0 fs.toList&&P.cellsOf t==(fs.toList.map fun f=>P.cellsOf f.type).sum &&fs.toList.all (fun f=>okT P n f.type)
   | some (.array m e)=>P.cellsOf t==m*P.cellsOf e&&okT P n e
   | some (.pointer e)=>P.cellsOf t==1&&decide (0<P.cellsOf e)&&okT P n e
   | some (.interface _)=>P.cellsOf t==1
   | _=>false
variable {G:AG} (hG: ∀ b,b<w.heap.size-> ¬G.wr b)
def rD (enc:TypeId×Value->H) (P:Program) (w:World) (spare:Nat->Bool) (G:AG) (n:Nat) (t:TypeId):Prop:=
 ∀ (fuel:Nat) (vs:List Value) (x:DataW H×List MemPlace),DataW.trod enc P w 0 spare true fuel t vs=some x->(x.1.weights P t).all (· <=reachBytes)=true-> ∃ cs,Al w G cs vs/\Bu P n t cs/\vs.length=P.cellsOf t
theorem Wu {n:Nat}: ∀ {fs:List Field} {o m:Nat} {vs:List Value} {xs:List (DataW H×List MemPlace)},zB P o fs=true->vs.length=o+(fs.map fun f=>P.cellsOf f.type).sum ->xs.length=fs.length->
 (∀ f∈fs,rD enc P w spare G n f.type)->
 (∀ (i:Nat) (f:Field),fs[i]? =some f->DataW.trod enc P w 0 spare true m f.type ((vs.drop f.offset).take (P.cellsOf f.type))=xs[i]?)->
 (DataW.weightsEach P (fs.map (·.type)) (xs.map (·.1))).all (· <=reachBytes)=true-> ∃ Dg:List (List C),Al w G Dg.flatten (vs.drop o)/\UL (Bu P n) (fs.map (·.type)) Dg
 | [],o,m,vs,xs,_,hl,_,_,_,_=>by
   refine⟨[],?_,rfl⟩;have:vs.drop o=[]:=by simp_all
   rw [this];simp [Al]
 | f::fs,o,m,vs,xs,ht,hl,hx,hr,hf,hw=>by
   simp only [zB,and_eq_true,beq_iff_eq]at ht;obtain⟨h1,h2⟩:=ht;cases xs with
   | nil=>simp at hx
   | cons x xs=>
     simp only [map_cons,List.sum_cons]at hl;simp only [map_cons,DataW.weightsEach,all_append,and_eq_true]at hw;have h0:=hf 0 f rfl;simp only [List.getElem?_cons_zero]at h0;obtain⟨cs,q1,q2,q3⟩:=hr f (by simp) m _ x h0 hw.1;obtain⟨Dg,k1,k2⟩:=Wu (o:=o+P.cellsOf f.type) (m:=m) (vs:=vs) (xs:=xs) h2 (by omega) (by grind) (fun g hg=>hr g (by simp [hg]))
      (fun i g hg=>by have:=hf (i+1) g (by simpa using hg);grind) hw.2
     refine⟨cs::Dg,?_,cs,Dg,rfl,q2,k2⟩;grind [drop_drop,take_append_drop,Zd]
theorem Zf {n e:Nat} (hr:rD enc P w spare G n e): ∀ (k o m:Nat) (vs:List Value) (xs:List (DataW H×List MemPlace)),vs.length=o+k*P.cellsOf e->xs.length=k->
 (∀ i,i<k->DataW.trod enc P w 0 spare true m e ((vs.drop (o+i*P.cellsOf e)).take (P.cellsOf e))=xs[i]?)->
 (DataW.weightsAll P e (xs.map (·.1))).all (· <=reachBytes)=true-> ∃ Dg:List (List C),Al w G Dg.flatten (vs.drop o)/\Dg.length=k/\ ∀ ds∈Dg,Bu P n e ds
 | 0,o,m,vs,xs,hl,_,_,_=>by refine⟨[],?_,rfl,by simp⟩;grind [Al]
 | k+1,o,m,vs,xs,hl,hx,hf,hw=>by
   cases xs with
   | nil=>simp at hx
   | cons x xs=>
     simp only [map_cons,DataW.weightsAll,all_append,and_eq_true]at hw;have h0:=hf 0 (by omega);simp only [Nat.zero_mul,add_zero,List.getElem?_cons_zero]at h0;obtain⟨cs,q1,q2,q3⟩:=hr m _ x h0 hw.1;obtain⟨Dg,k1,k2,k3⟩:=Zf hr k (o+P.cellsOf e) m vs xs (by grind) (by grind)
      (by grind) hw.2
     refine⟨cs::Dg,?_,by simp [k2],?_⟩
     ·grind [drop_drop,take_append_drop,Zd]
     grind
theorem Zg {n e:Nat} (ats:0<P.cellsOf e) (hr:rD enc P w spare G n e): ∀ (k o m:Nat) (a:Addr) (xs:List (DataW H×List MemPlace)),xs.length=k->
 (∀ i,i<k->(w.cells? 0 (a.add (o+i*P.cellsOf e)) (P.cellsOf e)).bind (DataW.trod enc P w 0 spare true m e)=xs[i]?)->
 (DataW.weightsAll P e (xs.map (·.1))).all (· <=reachBytes)=true->
 ∃ Dg:List (List C),Dg.length=k/\(∀ ds∈Dg,Bu P n e ds)/\(0<k->a.block<w.heap.size/\(o=0->a=⟨a.block,a.off,none⟩)/\An w G Dg.flatten a.block (a.off+o))
 | 0,o,m,a,xs,_,_,_=>(by simp_all)
 | k+1,o,m,a,xs,hx,hf,hw=>by
   cases xs with
   | nil=>simp at hx
   | cons x xs=>
     simp only [map_cons,DataW.weightsAll,all_append,and_eq_true]at hw;have h0:=hf 0 (by omega);simp only [Nat.zero_mul,add_zero,List.getElem?_cons_zero,Option.bind_eq_some_iff]at h0;obtain⟨vs,hvs,htr⟩:=h0;obtain⟨cs,q1,q2,q3⟩:=hr m _ x htr hw.1;obtain⟨c1,c2,c3,c4⟩:=lg ats hvs;obtain⟨Dg,k2,k3,k4⟩:=Zg ats hr k (o+P.cellsOf e) m a xs (by grind)
      (by grind) hw.2
     have abn:(a.add o).block =a.block:=by grind [Addr.add]
     have acn:(a.add o).off =a.off+o:=by grind [Addr.add]
     refine⟨cs::Dg,by simp [k2],?_,fun _=>⟨by grind,fun ho=>?_,?_⟩⟩
     ·grind
     ·subst ho;have e:a.add 0=a:=rfl;grind
     grind [lf,Ze,UM,List.length_eq_zero_iff]
theorem Zh {c:C} {v:Value} (h:Ah w G c v):Al w G [c] [v]:=by simp_all [Al]
theorem rE {len:Nat} {cs:List C} {v:Value} (hp:Ap cs=true) (h: ∃ a cap,v= .slice a len cap/\len<=cap/\cap<=maxLen/\(len=0->cs=[])/\
 (len=0\/ ∃ b off,a=some ⟨b,off,none⟩/\ ¬G.wr b/\b<w.heap.size/\An w G cs b off)):Ah w G (.sl len cs) v:=by grind [Ah]
theorem tL {cs:List C} {off:Nat} {v:Value} (hp:Ap cs=true) (h: ∃ b o,v= .pointer (some ⟨b,o+off,none⟩)/\ ¬G.wr b/\b<w.heap.size/\An w G cs b o):Ah w G (.abO cs off) v:=by grind [Ah]
include hG in
theorem OB: ∀ (n:Nat) (t:TypeId),okT P n t=true->rD enc P w spare G n t
 | 0,t,h=>by simp [okT]at h
 | n+1,t,h=>by
   intro fuel vs x hx hw;unfold okT at h;unfold Bu;split at h
   ·rename_i ht;obtain⟨b,rfl,rfl⟩:=DataW.trod_bool ht hx;exact⟨[.bool b],by simp [Al,Ah],by grind,by grind⟩
   ·rename_i k ht;obtain⟨z,rfl,rfl,hwf⟩:=DataW.trod_int ht hx;exact⟨[.int k z],by simp [Al,Ah],by grind,by grind⟩
   ·rename_i ht;obtain⟨s,rfl,rfl,hs⟩:=DataW.trod_string ht hx;simp only [DataW.weights,all_cons,List.all_nil,Bool.and_true,decide_eq_true_eq]at hw;exact⟨[.str s.data.toList],by simp [Al,Ah],by grind,by grind⟩
   ·rename_i e ht;simp only [and_eq_true,decide_eq_true_eq,beq_iff_eq]at h;rcases DataW.trod_slice ht hx with ⟨rfl,rfl⟩ | ⟨a,len,cap,elems,rest,m,rfl,rfl,rfl,_,hle,aqP,hlen,hel,_,_⟩
    ·refine⟨[.sl 0 []],?_,?_,by grind⟩
     ·exact Zh (rE rfl (by grind))
     ·exact⟨[],rfl,by simp,by simp⟩
    ·simp only [DataW.weights,ht,all_cons,all_append,and_eq_true,decide_eq_true_eq,List.length_map]at hw;obtain⟨Dg,k2,k3,k4⟩:=Zg h.1.2 (OB n e h.2) len 0 m a elems hlen (by grind) hw.2.1;refine⟨[.sl Dg.length Dg.flatten],?_,?_,by grind⟩
     ·refine Zh (rE (HP (fun ds hd=>MN (k3 ds hd))) ⟨some a,cap,by rw [k2],by omega,aqP,fun h0=>by rw [List.length_eq_zero_iff.1 h0];rfl,?_⟩);rw [k2];by_cases hk:0<len
      ·obtain⟨q1,q2,q3⟩:=k4 hk;exact .inr ⟨a.block,a.off,by rw [<-q2 rfl],hG _ q1,q1,q3⟩
      ·exact .inl (by omega)
     grind
   ·rename_i fs ht;simp only [and_eq_true,beq_iff_eq,all_eq_true]at h;obtain⟨⟨h1,h2⟩,h3⟩:=h;obtain⟨xs,m,rfl,rfl,hl,hx2,hf⟩:=DataW.trod_struct ht hx;simp only [DataW.weights,ht]at hw;obtain⟨Dg,k1,k2⟩:=Wu (fs:=fs.toList) (o:=0) (m:=m) (vs:=vs) (xs:=xs) (enc:=enc) (spare:=spare) (n:=n) h1 (by grind) (by grind) (fun f hf=>OB n f.type (h3 f hf))
     (by grind) hw
    grind
   ·rename_i m e ht;simp only [and_eq_true,beq_iff_eq]at h;obtain⟨xs,q,rfl,rfl,hl,hx2,hf⟩:=DataW.trod_array ht hx;simp only [DataW.weights,ht]at hw;obtain⟨Dg,k1,k2,k3⟩:=Zf (OB n e h.2) m 0 q vs xs (by grind) hx2 (by grind) hw;grind
   ·rename_i e ht;simp only [and_eq_true,decide_eq_true_eq,beq_iff_eq]at h;rcases DataW.trod_pointer ht hx with ⟨rfl,rfl⟩ | ⟨a,cs',y,m,rfl,rfl,rfl,hc,hy⟩
    ·exact⟨[.acg],by simp [Al,Ah],by grind,by grind⟩
    ·simp only [DataW.weights,ht]at hw;obtain⟨ds,q1,q2,q3⟩:=OB n e h.2 m cs' y hy hw;obtain⟨c1,c2,c3,c4⟩:=lg h.1.2 hc;refine⟨[.abO ds 0],?_,by grind,by grind⟩;exact Zh (tL (MN q2) ⟨a.block,a.off,by grind,hG _ c2,c2,(by grind [UM])⟩)
   ·rename_i ms ht;cases fuel with
    | zero=>simp [DataW.trod]at hx
    | succ fuel=>
      unfold DataW.trod at hx;rw [ht]at hx;split at hx<;>simp_all
      ·exact⟨[.aas],by simp [Al,Ah], .inl rfl⟩
      ·exact⟨[.held],by simp [Al,Ah], .inr rfl⟩
   ·cases h
end
end Go.PL
namespace Go.PL
open Go Go.RowKit
section
variable {P:Program} {t e:TypeId} {n:Nat} {cs:List C}
theorem o4 (hu:P.underlying t=some .bool) (h:Bu P n t cs): ∃ b,cs=[.bool b]/\True:=by cases n<;>simp_all [Bu]
theorem tM {k:IntKind} (hu:P.underlying t=some (.int k)) (h:Bu P n t cs): ∃ z,cs=[.int k z]/\(Lit.int k z).wf =true:=by cases n<;>grind [Bu]
theorem tN (hu:P.underlying t=some .string) (h:Bu P n t cs): ∃ s:List UInt8,cs=[.str s]/\s.length<=reachBytes:=by cases n<;>grind [Bu]
theorem Zi {α:Type} {R:List C->Prop} {enc:α->List C} {ok:α->Prop} (hd: ∀ ds,R ds-> ∃ x,ds=enc x/\ok x): ∀ {Dg:List (List C)},(∀ ds∈Dg,R ds)-> ∃ l:List α,Dg=l.map enc/\ ∀ y∈l,ok y
 | [],_=>(by simp_all)
 | ds::Dg,h=>by obtain⟨x,h1,h2⟩:=hd ds (h ds (by simp));obtain⟨l,h3,h4⟩:=Zi hd (fun d hd'=>h d (by simp [hd']): ∀ d∈Dg,R d);refine⟨x::l,by grind,fun y hy=>?_⟩;grind
theorem vH {α:Type} {enc:α->List C} {ok:α->Prop} {b:Nat} (hu:P.underlying t=some (.slice e)) (hb:P.bytesOf e=b) (hd: ∀ n ds,Bu P n e ds-> ∃ x,ds=enc x/\ok x) (h:Bu P n t cs):
 ∃ l:List α,cs=[.sl l.length (l.flatMap enc)]/\l.length*b<=reachBytes/\ ∀ y∈l,ok y:=by
 cases n with
 | zero=>exact h.elim
 | succ n=>
   simp only [Bu,hu]at h;obtain⟨Dg,h1,h2,h3⟩:=h;obtain⟨l,rfl,h5⟩:=Zi (hd n) h3;grind
theorem lh {α:Type} (f:α->C): ∀ l:List α,l.flatMap (fun x=>[f x])=l.map f
 | []=>rfl
 | a::l=>by rw [flatMap_cons,lh f l];rfl
theorem Bl {fs:Array Field} {ts:List TypeId} (hu:P.underlying t=some (.struct fs)) (hts:fs.toList.map (·.type)=ts) (h:Bu P n t cs): ∃ (m:Nat) (Dg:List (List C)),cs=Dg.flatten/\UL (Bu P m) ts Dg:=by cases n<;>grind [Bu]
theorem fc {α:Type} {enc:α->List C} {n:Nat} (hn: ∀ x,(enc x).length =n) (l:List α) {i:Nat} (d:α) (hi:i<l.length) (j m:Nat) (hj:j+m<=n):
 ((l.flatMap enc).drop (i*n+j)).take m=((enc (l.getD i d)).drop j).take m:=by
 induction l generalizing i with
 | nil=>simp at hi
 | cons a l ih=>
   cases i with
   | zero=>
     grind
   | succ i=>
     have:=ih (i:=i) (by simpa using hi);rw [List.getD_cons_succ, <-this,flatMap_cons];have e:(i+1)*n+j=(enc a).length +(i*n+j):=by grind
     simp_all [List.drop_append,List.drop_of_length_le]
theorem vJ {α:Type} {enc:α->List C} {n:Nat} (hn: ∀ x,(enc x).length =n) (l:List α) {i:Nat} (d:α) (hi:i<l.length) (j:Nat) (hj:j<n):
 (l.flatMap enc).getD (i*n+j) C.any=(enc (l.getD i d)).getD j C.any:=by
 have h:=fc hn l d hi j 1 (by omega);have e: ∀ (m:List C) (k:Nat),m.getD k C.any=((m.drop k).take 1).getD 0 C.any:=by grind
 grind
theorem BP {α:Type} {enc:α->List C} {n:Nat} (hn: ∀ x,(enc x).length =n): ∀ l:List α,(l.flatMap enc).length =l.length*n
 | []=>by simp
 | a::l=>by rw [flatMap_cons,List.length_append,hn,BP hn l,List.length_cons,Nat.add_mul];omega
end
end Go.PL
namespace Go.PL
open Go Go.RowKit
def A8:List Prop->Prop
 | []=>True
 | p::ps=>p/\A8 ps
theorem Am: ∀ {a b:List Prop},A8 (a++b)↔A8 a/\A8 b
 | [],b=>by simp [A8]
 | p::a,b=>by simp_all [A8,Am,and_assoc]
abbrev CV:=Option (List Prop×V)
def Yz {α:Type} (b:Bool) (r:α):Option α:=match b with
 | true=>some r
 | false=>none
theorem BK {α:Type} {b:Bool} {r x:α} (h:Yz b r=some x):b=true/\r=x:=by cases b<;>simp [Yz]at h;grind
def AZ (st:St) (g:Bool) (x:Operand):List Prop×V:=
 match st.ev x with
 | .g c v=>([g=true->c=true],v)
 | v=>([],v)
theorem PQ {st:St} {g:Bool} {x:Operand} (hl:A8 (AZ st g x).1):(st.arg g x).1/\(st.arg g x).2=(AZ st g x).2:=by
 unfold AZ at *;unfold St.arg;generalize st.ev x=e at *;cases e with
 | g c v=>exact⟨hl.1,rfl⟩
 | c _=>grind
 | agg _=>grind
 | tup _=>grind
 | undef=>grind
def Ib (st:St) (g:Bool):List Operand->List Prop×List V
 | []=>([],[])
 | x::xs=>((AZ st g x).1++(Ib st g xs).1,(AZ st g x).2::(Ib st g xs).2)
theorem Sh {st:St} {g:Bool}: ∀ {xs:List Operand},A8 (Ib st g xs).1->(st.args g xs).1/\(st.args g xs).2=(Ib st g xs).2
 | [],_=>⟨trivial,rfl⟩
 | x::xs,hl=>by obtain⟨h1,h2⟩:=Am.1 hl;have a:=PQ (st:=st) (g:=g) (x:=x) h1;have b:=Sh (st:=st) (g:=g) (xs:=xs) h2;simp only [St.args,Ib];exact⟨⟨a.1,b.1⟩,by rw [a.2,b.2]⟩
def iD:V->Option (Option Bool×Bool)
 | .c (.bool q)=>some (none,q)
 | .g c (.c (.bool q))=>some (some c,q)
 | _=>none
def vK (p:Prop):Option Bool->List Prop
 | none=>[]
 | some c=>[p->c=true]
theorem Wv {v:V} {c:Option Bool} {q:Bool} (h:iD v=some (c,q)):QS v=some (c.getD true,q):=by
 unfold iD at h;split at h<;>simp at h
 ·obtain⟨rfl,rfl⟩:=h;rfl
 ·obtain⟨rfl,rfl⟩:=h;rfl
theorem Zj {p:Prop} {c:Option Bool} (h:A8 (vK p c)):p->c.getD true=true:=by
 cases c with
 | none=>intro _;rfl
 | some c=>exact h.1
def Ab1 (l:List Prop) (p:Bool) (a b:V):CV:=
 match iD a,iD b with
 | some (ca,q),some (cb,r)=>some (l++(vK (p=true) ca++vK (p=false) cb), .c (.bool (if p then q else r)))
 | _,_=>none
def rF (P:Program) (t:TypeId) (st:St) (l:List Prop):V->CV
 | .c (.ptr id off)=>match KP P t,st.acj id with
   | some (ag,n),some e=>Yz (Nat.ble (off+n) e.cs.length&&(ag||Nat.blt 0 n)) (l,toV ag off n e.cs)
   | _,_=>none
 | .c (.abO cs off)=>match KP P t with
   | some (ag,n)=>Yz (Nat.ble (off+n) cs.length&&(ag||Nat.blt 0 n)) (l,toV ag off n cs)
   | _=>none
 | _=>none
theorem Ww {P:Program} {t:TypeId} {st:St} {l l':List Prop} {x v:V} (h:rF P t st l x=some (l',v)):l=l'/\(DM P t st x).1/\(DM P t st x).2=v:=by
 unfold rF at h;unfold DM;split at h
 ·split at h
  ·rename_i ag n e h1 h2;obtain⟨hb,hr⟩:=BK h;simp_all
  ·cases h
 ·split at h
  ·rename_i ag n h1;obtain⟨hb,hr⟩:=BK h;simp_all
  ·cases h
 ·cases h
def vM (P:Program) (t:TypeId) (st:St) (l:List Prop) (u:V):V->CV
 | .c (.ptr id off)=>match KP P t,st.acj id with
   | some (ag,n),some e=>Yz (ag||Nat.blt 0 n) (l++[off+n<=e.cs.length/\toV ag off n e.cs=u],u)
   | _,_=>none
 | .c (.abO cs off)=>match KP P t with
   | some (ag,n)=>Yz (ag||Nat.blt 0 n) (l++[off+n<=cs.length/\toV ag off n cs=u],u)
   | _=>none
 | _=>none
theorem li {P:Program} {t:TypeId} {st:St} {l l':List Prop} {x u v:V} (h:vM P t st l u x=some (l',v)) (hl:A8 l'):A8 l/\(DM P t st x).1/\(DM P t st x).2=v:=by
 unfold vM at h;unfold DM;split at h
 ·split at h
  ·rename_i ag n e h1 h2;obtain⟨hb,hr⟩:=BK h;simp only [injEq]at hr;obtain⟨rfl,rfl⟩:=hr;obtain⟨q1,q2,_⟩:=Am.1 hl;simp_all
  ·cases h
 ·split at h
  ·rename_i ag n h1;obtain⟨hb,hr⟩:=BK h;simp only [injEq]at hr;obtain⟨rfl,rfl⟩:=hr;obtain⟨q1,q2,_⟩:=Am.1 hl;simp_all
  ·cases h
 ·cases h
def kEq:BinOp->IntKind->IntKind->Bool
 | .shl,_,_ | .shr,_,_=>true
 | _,k,k'=>k==k'
theorem lj {op:BinOp} {k k':IntKind} (h:kEq op k k'=true):LN op k k':=by unfold kEq at h;grind [LN]
def AcV (op:BinOp) (b:Int):List Prop:=
 match op with
 | .quo | .rem =>[b ≠ 0]
 | .shl | .shr =>[0<=b]
 | _=>[]
theorem tO {op:BinOp} {k:IntKind} {a b:Int} (h:A8 (AcV op b)):(KQ op k a b).1:=by cases op<;>simp_all [AcV,KQ,A8]
def AcW (op:BinOp) (a b:List UInt8):Option (List Prop):=
 match op with
 | .add =>some [a.length+b.length<=maxLen]
 | .eql | .neq | .lss | .leq | .gtr | .geq =>some []
 | _=>none
theorem tP {op:BinOp} {a b:List UInt8} {l:List Prop} (h:AcW op a b=some l) (hl:A8 l):(LM op a b).1:=by cases op<;>simp_all [AcW,LM]<;>(subst h;exact hl.1)
def AcX (P:Program) (op:BinOp) (t:TypeId) (kc:Bool) (l:List Prop):V->V->CV
 | .c (.int k a), .c (.int k' b)=>Yz (kEq op k k') (l++AcV op b, .c (KQ op k a b).2)
 | .c (.str a), .c (.str b)=>match AcW op a b with
   | some c=>some (l++c, .c (LM op a b).2)
   | none=>none
 | .agg cs, .agg ds=>match op with
   | .eql =>Yz (oS P t cs ds) (l, .c (.bool (BT cs ds)))
   | .neq =>Yz (oS P t cs ds) (l, .c (.bool !(BT cs ds)))
   | _=>none
 | x,y=>some (l++[(Xt P op t kc x y).1],(Xt P op t kc x y).2)
def MO (P:Program) (op:BinOp) (t:TypeId) (k:Bool) (x y:V):Prop×V:=
 match x,y with
 | .agg cs, .agg ds=>kZ P op t cs ds
 | x,y=>Xt P op t k x y
theorem o5 {P:Program} {op:BinOp} {t:TypeId} {kc:Bool} {l l':List Prop} {x y v:V} (h:AcX P op t kc l x y=some (l',v)) (hl:A8 l'):A8 l/\(MO P op t kc x y).1/\(MO P op t kc x y).2=v:=by
 unfold AcX at h;split at h
 ·obtain⟨hb,hr⟩:=BK h;simp only [injEq]at hr;obtain⟨rfl,rfl⟩:=hr;obtain⟨q1,q2⟩:=Am.1 hl;exact⟨q1,⟨lj hb,tO q2⟩,rfl⟩
 ·split at h
  ·rename_i c hc;simp only [Option.some.injEq,injEq]at h;obtain⟨rfl,rfl⟩:=h;obtain⟨q1,q2⟩:=Am.1 hl;exact⟨q1,tP hc q2,rfl⟩
  ·cases h
 ·split at h
  ·obtain⟨hb,hr⟩:=BK h;simp only [injEq]at hr;exact⟨hr.1▸hl,hb,hr.2⟩
  ·obtain⟨hb,hr⟩:=BK h;simp only [injEq]at hr;exact⟨hr.1▸hl,hb,hr.2⟩
  ·cases h
 ·rename_i hne;simp only [Option.some.injEq,injEq]at h;obtain⟨rfl,rfl⟩:=h;obtain⟨q1,q2⟩:=Am.1 hl;have e:MO P op t kc x y=Xt P op t kc x y:=by grind [MO]
  rw [e];exact⟨q1,q2.1,rfl⟩
def AcY (P:Program) (t:TypeId) (st:St) (l:List Prop) (x y:V):CV:=
 match y with
 | .c (.int _ i)=>match x with
   | .c (.sl len cs)=>match DG P t with
     | some (_,n)=>some (l++[0<=i/\i<len], .c (.abO cs (i.toNat*n)))
     | none=>none
   | .c (.h_ id)=>match DG P t,st.acj id with
     | some (_,n),some e=>match e.row with
       | some (_,_,len)=>some (l++[0<=i/\i<len], .c (.ptr id (i.toNat*n)))
       | none=>none
     | _,_=>none
   | .c (.bsl id off len)=>match DG P t with
     | some (_,n)=>some (l++[0<=i/\i<len], .c (.ptr id (off+i.toNat*n)))
     | none=>none
   | .c (.ptr id off)=>match Gq P t with
     | some (k,_,n)=>some (l++[0<=i/\i<k], .c (.ptr id (off+i.toNat*n)))
     | none=>none
   | .c (.abO cs off)=>match Gq P t with
     | some (k,_,n)=>some (l++[0<=i/\i<k], .c (.abO cs (off+i.toNat*n)))
     | none=>none
   | _=>none
 | _=>none
theorem o6 {P:Program} {t:TypeId} {st:St} {l l':List Prop} {x y v:V} (h:AcY P t st l x y=some (l',v)) (hl:A8 l'):A8 l/\(Ch P t st x y).1/\(Ch P t st x y).2=v:=by
 unfold AcY at h;unfold Ch;split at h
 ·split at h
  ·split at h
   ·rename_i h1;simp only [Option.some.injEq,injEq]at h;obtain⟨rfl,rfl⟩:=h;obtain⟨q1,q2,_⟩:=Am.1 hl;grind
   ·cases h
  ·split at h
   ·rename_i h1 h2;split at h
    ·rename_i h3;simp only [Option.some.injEq,injEq]at h;obtain⟨rfl,rfl⟩:=h;obtain⟨q1,q2,_⟩:=Am.1 hl;grind
    ·cases h
   ·cases h
  ·split at h
   ·rename_i h1;simp only [Option.some.injEq,injEq]at h;obtain⟨rfl,rfl⟩:=h;obtain⟨q1,q2,_⟩:=Am.1 hl;grind
   ·cases h
  ·split at h
   ·rename_i h1;simp only [Option.some.injEq,injEq]at h;obtain⟨rfl,rfl⟩:=h;obtain⟨q1,q2,_⟩:=Am.1 hl;grind
   ·cases h
  ·split at h
   ·rename_i h1;simp only [Option.some.injEq,injEq]at h;obtain⟨rfl,rfl⟩:=h;obtain⟨q1,q2,_⟩:=Am.1 hl;grind
   ·cases h
  ·cases h
 ·cases h
def AcZ (P:Program) (t:TypeId) (l:List Prop) (x:V) (lo hi:Option V):CV:=
 match x with
 | .c (.str s)=>match dm s.length lo hi with
   | some (a,h)=>Yz (Eb P t) (l++[0<=a/\a<=h/\h<=s.length], .c (.str ((s.drop a.toNat).take (h.toNat - a.toNat))))
   | none=>none
 | .c (.sl len cs)=>match DG P t,dm len lo hi with
   | some (_,n),some (a,h)=>some (l++[0<=a/\a<=h/\h<=len,cs.length=len*n], .c (.sl (h.toNat - a.toNat) ((cs.drop (a.toNat*n)).take ((h.toNat - a.toNat)*n))))
   | _,_=>none
 | .c (.ptr id off)=>match Gq P t with
   | some (k,_,n)=>match dm k lo hi with
     | some (a,h)=>some (l++[0<=a/\a<k/\a<=h/\h<=k], .c (.bsl id (off+a.toNat*n) (h.toNat - a.toNat)))
     | none=>none
   | none=>none
 | _=>none
theorem o7 {P:Program} {t:TypeId} {l l':List Prop} {x v:V} {lo hi:Option V} (h:AcZ P t l x lo hi=some (l',v)) (hl:A8 l'):A8 l/\(Hb P t x lo hi).1/\(Hb P t x lo hi).2=v:=by
 unfold AcZ at h;unfold Hb;split at h
 ·split at h
  ·rename_i a hh h1;obtain⟨hb,hr⟩:=BK h;simp only [injEq]at hr;obtain⟨rfl,rfl⟩:=hr;obtain⟨q1,q2,_⟩:=Am.1 hl;grind
  ·cases h
 ·split at h
  ·rename_i h1 h2;simp only [Option.some.injEq,injEq]at h;obtain⟨rfl,rfl⟩:=h;obtain⟨q1,q2,q3,_⟩:=Am.1 hl;grind
  ·cases h
 ·split at h
  ·rename_i h1;split at h
   ·rename_i h2;simp only [Option.some.injEq,injEq]at h;obtain⟨rfl,rfl⟩:=h;obtain⟨q1,q2,_⟩:=Am.1 hl;grind
   ·cases h
  ·cases h
 ·cases h
def iE (st:St) (g:Bool):Option Operand->List Prop×Option V
 | none=>([],none)
 | some x=>((AZ st g x).1,some (AZ st g x).2)
theorem zC {st:St} {g:Bool}: ∀ {x:Option Operand},A8 (iE st g x).1->(C0 st g x).1/\(C0 st g x).2=(iE st g x).2
 | none,_=>⟨trivial,rfl⟩
 | some x,hl=>by grind [PQ,C0,iE]
def Ac0 (P:Program) (s:TypeId) (f:Nat) (l:List Prop):V->CV
 | .c (.ptr id off)=>match vD P s f with
   | some (o,_,n)=>Yz (Nat.blt 0 n) (l, .c (.ptr id (off+o)))
   | none=>none
 | .c (.abO cs off)=>match vD P s f with
   | some (o,_,n)=>Yz (Nat.blt 0 n) (l, .c (.abO cs (off+o)))
   | none=>none
 | _=>none
theorem o8 {P:Program} {s:TypeId} {f:Nat} {l l':List Prop} {x v:V} (h:Ac0 P s f l x=some (l',v)):l=l'/\(B1 P s f x).1/\(B1 P s f x).2=v:=by
 unfold Ac0 at h;unfold B1;split at h
 ·split at h
  ·rename_i h1;obtain⟨hb,hr⟩:=BK h;simp_all
  ·cases h
 ·split at h
  ·rename_i h1;obtain⟨hb,hr⟩:=BK h;simp_all
  ·cases h
 ·cases h
def o9 (P:Program) (t:TypeId) (f:Nat) (l:List Prop):V->CV
 | .agg cs=>match vD P t f with
   | some (o,ag,n)=>Yz (Nat.ble (o+n) cs.length&&(ag||Nat.blt 0 n)) (l,toV ag o n cs)
   | none=>none
 | _=>none
theorem iF {P:Program} {s:TypeId} {f:Nat} {l l':List Prop} {x v:V} (h:o9 P s f l x=some (l',v)):l=l'/\(JG P s f x).1/\(JG P s f x).2=v:=by
 unfold o9 at h;unfold JG;split at h
 ·split at h
  ·rename_i h1;obtain⟨hb,hr⟩:=BK h;simp_all
  ·cases h
 ·cases h
def vN (P:Program) (t:TypeId) (l:List Prop) (x y:V) (u:Option V):CV:=
 match y with
 | .c (.int _ i)=>match x with
   | .c (.str s)=>Yz (Eb P t) (l++[0<=i/\i<s.length], .c (.int .u8 (s.getD i.toNat 0).toNat))
   | .agg cs=>match Gq P t with
     | some (k,e,n)=>match KP P e,u with
       | some (ag,_),some u=>Yz (Nat.blt 0 n) (l++[(0<=i/\i<k)/\i.toNat*n+n<=cs.length/\toV ag (i.toNat*n) n cs=u],u)
       | _,_=>none
     | none=>none
   | _=>none
 | _=>none
theorem ll {P:Program} {t:TypeId} {l l':List Prop} {x y v:V} {u:Option V} (h:vN P t l x y u=some (l',v)) (hl:A8 l'):A8 l/\(IG P t x y).1/\(IG P t x y).2=v:=by
 unfold vN at h;unfold IG;split at h
 ·split at h
  ·obtain⟨hb,hr⟩:=BK h;simp only [injEq]at hr;obtain⟨rfl,rfl⟩:=hr;obtain⟨q1,q2,_⟩:=Am.1 hl;grind
  ·split at h
   ·rename_i h1;split at h
    ·rename_i h2;obtain⟨hb,hr⟩:=BK h;simp only [injEq]at hr;obtain⟨rfl,rfl⟩:=hr;obtain⟨q1,q2,_⟩:=Am.1 hl;simp_all
    ·cases h
   ·cases h
  ·cases h
 ·cases h
def unC (op:UnOp) (l:List Prop):V->CV
 | .c (.int k n)=>match op with
   | .neg =>some (l, .c (.int k (k.wrap (0 - n))))
   | .xor =>some (l, .c (.int k (R4 k (if k.signed then -1 else k.max) n)))
   | _=>none
 | .c (.bool b)=>match op with
   | .not =>some (l, .c (.bool !b))
   | _=>none
 | _=>none
theorem tQ {op:UnOp} {l l':List Prop} {x v:V} (h:unC op l x=some (l',v)):l=l'/\(zi op x).1/\(zi op x).2=v:=by unfold unC at h;grind [zi]
def vQ (P:Program) (src dst:TypeId) (st:St) (l:List Prop):V->CV
 | .c (.int _ n)=>match kK P dst with
   | some k=>Yz (zs P src) (l, .c (.int k (k.wrap n)))
   | none=>none
 | .c (.str s)=>Yz (Eb P src&&Eb P dst) (l, .c (.str s))
 | x=>some (l++[(KT P src dst st x).1],(KT P src dst st x).2)
theorem lm {P:Program} {src dst:TypeId} {st:St} {l l':List Prop} {x v:V} (h:vQ P src dst st l x=some (l',v)) (hl:A8 l'):A8 l/\(KT P src dst st x).1/\(KT P src dst st x).2=v:=by
 unfold vQ at h;split at h
 ·grind [KT,BK]
 ·grind [KT,BK]
 ·simp only [Option.some.injEq,injEq]at h;obtain⟨rfl,rfl⟩:=h;obtain⟨q1,q2,_⟩:=Am.1 hl;grind
def Ac1 (P:Program) (t:TypeId) (st:St) (l:List Prop):V->CV
 | .c (.str s)=>Yz (Eb P t) (l, .c (.int .i64 s.length))
 | .c (.sl len _)=>Yz (EI P t) (l, .c (.int .i64 len))
 | .c (.h_ id)=>match st.acj id with
   | some e=>match e.row with
     | some (_,_,len)=>Yz (EI P t) (l, .c (.int .i64 len))
     | none=>none
   | none=>none
 | x=>some (l++[(QQ P t st x).1],(QQ P t st x).2)
theorem pe {P:Program} {t:TypeId} {st:St} {l l':List Prop} {x v:V} (h:Ac1 P t st l x=some (l',v)) (hl:A8 l'):A8 l/\(QQ P t st x).1/\(QQ P t st x).2=v:=by
 unfold Ac1 at h;split at h
 ·obtain⟨hb,hr⟩:=BK h;simp only [injEq]at hr;exact⟨hr.1▸hl,hb,hr.2⟩
 ·obtain⟨hb,hr⟩:=BK h;simp only [injEq]at hr;exact⟨hr.1▸hl,hb,hr.2⟩
 ·grind [QQ,BK]
 ·simp only [Option.some.injEq,injEq]at h;obtain⟨rfl,rfl⟩:=h;obtain⟨q1,q2,_⟩:=Am.1 hl;grind
def zD (P:Program) (st:St) (g:Bool) (op:Op):Option V->CV
 | none=>some ([(DU P st g op).1],(DU P st g op).2)
 | some u=>some ([(DU P st g op).1/\(DU P st g op).2=u],u)
theorem QX {P:Program} {st:St} {g:Bool} {u:Option V} {op:Op} {l:List Prop} {v:V} (h:zD P st g op u=some (l,v)) (hl:A8 l):(DU P st g op).1/\(DU P st g op).2=v:=by
 cases u<;>simp only [zD,Option.some.injEq,injEq]at h<;>obtain⟨rfl,rfl⟩:=h
 ·exact⟨hl.1,rfl⟩
 ·exact hl.1
def op1 (P:Program) (st:St) (g:Bool) (u:Option V):Op->CV
 | .move x=>some (AZ st g x)
 | .assign x=>some (AZ st g x)
 | .pick c a b=>match (AZ st g c).2 with
   | .c (.bool p)=>Ab1 (AZ st g c).1 p (st.ev a) (st.ev b)
   | _=>none
 | .load t x=>match u with
   | none=>rF P t st (AZ st g x).1 (AZ st g x).2
   | some u=>vM P t st (AZ st g x).1 u (AZ st g x).2
 | .binOp op t x y _=>AcX P op t (BJ x||BJ y) ((AZ st g x).1++(AZ st g y).1) (AZ st g x).2 (AZ st g y).2
 | .unOp op _ x=>unC op (AZ st g x).1 (AZ st g x).2
 | .convert src dst x=>vQ P src dst st (AZ st g x).1 (AZ st g x).2
 | .slice t x lo hi none=>AcZ P t ((AZ st g x).1++((iE st g lo).1++(iE st g hi).1)) (AZ st g x).2 (iE st g lo).2 (iE st g hi).2
 | .fieldAddr s x f=>Ac0 P s f (AZ st g x).1 (AZ st g x).2
 | .field t x f=>o9 P t f (AZ st g x).1 (AZ st g x).2
 | .indexAddr t x i=>AcY P t st ((AZ st g x).1++(AZ st g i).1) (AZ st g x).2 (AZ st g i).2
 | .index t x i=>vN P t ((AZ st g x).1++(AZ st g i).1) (AZ st g x).2 (AZ st g i).2 u
 | .call c=>match c.callee,c.args.toList,c.argTypes.toList with
   | .builtin .len,[x],[t]=>Ac1 P t st (AZ st g x).1 (AZ st g x).2
   | _,_,_=>zD P st g (.call c) none
 | op=>zD P st g op u
theorem fe {P:Program} {st:St} {g:Bool} {u:Option V} {op:Op} {l:List Prop} {v:V} (h:op1 P st g u op=some (l,v)) (hl:A8 l):(DU P st g op).1/\(DU P st g op).2=v:=by
 have A: ∀ x,A8 (AZ st g x).1->(st.arg g x).1/\(st.arg g x).2=(AZ st g x).2:=fun x hx=>PQ hx;have O: ∀ x,A8 (iE st g x).1->(C0 st g x).1/\(C0 st g x).2=(iE st g x).2:=fun x hx=>zC hx;cases op<;>simp only [op1]at h<;>try exact QX h hl
 case move x=>
  grind [DU,rd]
 case assign x=>
  grind [DU,rd]
 case pick c a b=>
  split at h
  ·rename_i p hp;unfold Ab1 at h;split at h
   ·rename_i ca q cb r h1 h2;simp only [Option.some.injEq,injEq]at h;obtain⟨rfl,rfl⟩:=h;obtain⟨q1,q2⟩:=Am.1 hl;obtain⟨q2,q3⟩:=Am.1 q2;obtain⟨k1,k2⟩:=A c q1;rw [hp]at k2;simp only [DU,rd,Q_,k2,YY,Wv h1,Wv h2];exact⟨⟨k1,Zj q2,Zj q3⟩,trivial⟩
   ·cases h
  ·cases h
 case load t x=>
  split at h
  ·have:=Ww h;grind [DU,rd,Q_]
  ·have:=li h hl;grind [DU,rd,Q_]
 case binOp op t x y ty=>
  have:=o5 h hl;obtain⟨q1,q2⟩:=Am.1 this.1;obtain⟨k1,k2⟩:=A x q1;obtain⟨k3,k4⟩:=A y q2;have e:DU P st g (.binOp op t x y ty)=((st.arg g x).1/\(st.arg g y).1/\(MO P op t (BJ x||BJ y) (st.arg g x).2 (st.arg g y).2).1,(MO P op t (BJ x||BJ y) (st.arg g x).2 (st.arg g y).2).2):=by
   simp only [DU];unfold MO;split
   ·grind
   ·rename_i hne;split
    ·grind
    ·rfl
  grind
 case unOp op t x=>
  have:=tQ h;grind [DU,rd,Q_]
 case convert s d x=>
  have:=lm h hl;grind [DU,rd,Q_]
 case slice t x lo hi mx=>
  cases mx with
  | some m=>exact QX h hl
  | none=>
    have:=o7 h hl;grind [Am,DU,rd,Q_]
 case fieldAddr s x f=>
  have:=o8 h;grind [DU,rd,Q_]
 case field s x f=>
  have:=iF h;grind [DU,rd,Q_]
 case indexAddr t x y=>
  have:=o6 h hl;grind [Am,DU,rd,Q_]
 case index t x y=>
  have:=ll h hl;grind [Am,DU,rd,Q_]
 case call c=>
  split at h
  ·rename_i x t h1 h2 h3;have:=pe h hl;grind [DU,rd,QT,Q_]
  ·exact QX h hl
def opT (P:Program) (st:St) (g:Bool) (u:Option V) (op:Op):CV:=
 match u with
 | none=>op1 P st g none op
 | some u=>match op1 P st g (some u) op with
   | some (l,v)=>some (l++[v=u],u)
   | none=>none
theorem PR {P:Program} {st:St} {g:Bool} {u:Option V} {op:Op} {l:List Prop} {v:V} (h:opT P st g u op=some (l,v)) (hl:A8 l):(DU P st g op).1/\(DU P st g op).2=v:=by
 cases u with
 | none=>grind [opT,fe]
 | some u=>
   simp only [opT]at h;split at h
   ·rename_i l1 v1 h1;simp only [Option.some.injEq,injEq]at h;obtain⟨rfl,rfl⟩:=h;obtain⟨q1,q2,_⟩:=Am.1 hl;grind [fe]
   ·cases h
end Go.PL
namespace Go.PL
open Go Go.RowKit
mutual
def C.i_ (p:Ak->Bool):C->Bool
 | .h_ i=>p i
 | .ptr i _=>p i
 | .bsl i _ _=>p i
 | .rsl i _ _ _=>p i
 | .bld i _=>p i
 | .afN i=>p i
 | .clo _ cs=>Dp p cs
 | .bmv _ cs=>Dp p cs
 | _=>false
def Dp (p:Ak->Bool):List C->Bool
 | []=>false
 | c::cs=>c.i_ p||Dp p cs
end
mutual
def V.i_ (p:Ak->Bool):V->Bool
 | .c x=>x.i_ p
 | .agg cs=>Dp p cs
 | .tup vs=>OC p vs
 | .g _ v=>v.i_ p
 | .undef =>false
def OC (p:Ak->Bool):List V->Bool
 | []=>false
 | v::vs=>v.i_ p||OC p vs
end
def C1 (p:Ak->Bool) (c:C):C:=if c.i_ p then .any else c
def Ca (p:Ak->Bool) (v:V):V:=if v.i_ p then .undef else v
def Ax.e_ (p:Ak->Bool) (e:Ax):Ax:=match e with
 | ⟨i,r,cs,true⟩=>⟨i,r,cs,true⟩
 | ⟨i,r,cs,false⟩=>⟨i,r,cs.map (C1 p),false⟩
theorem Ax.E_ (p:Ak->Bool) (e:Ax):(e.e_ p).id =e.id:=by obtain⟨i,r,cs,_ | _⟩:=e<;>rfl
theorem Ax.afr (p:Ak->Bool) (e:Ax):(e.e_ p).pu =e.pu:=by obtain⟨i,r,cs,_ | _⟩:=e<;>rfl
mutual
theorem pg (p:Ak->Bool) (i:Ak): ∀ c:C,c.i_ p=false->c.s_ i=true->p i=false
 | .h_ _,h,k=>by simp_all [C.i_,C.s_]
 | .ptr _ _,h,k=>by simp_all [C.i_,C.s_]
 | .rsl _ _ _ _,h,k=>by simp_all [C.i_,C.s_]
 | .bsl _ _ _,h,k=>by simp_all [C.i_,C.s_]
 | .bld _ _,h,k=>by simp_all [C.i_,C.s_]
 | .afN _,h,k=>by simp_all [C.i_,C.s_]
 | .clo _ cs,h,k=>Zk p i cs (by simpa only [C.i_] using h) (by simpa only [C.s_] using k)
 | .bmv _ cs,h,k=>Zk p i cs (by simpa only [C.i_] using h) (by simpa only [C.s_] using k)
 | .int ..,_,k=>by simp [C.s_]at k
 | .bool _,_,k=>by simp [C.s_]at k
 | .str _,_,k=>by simp [C.s_]at k
 | .sl ..,_,k=>by simp [C.s_]at k
 | .abO ..,_,k=>by simp [C.s_]at k
 | .acg,_,k=>by simp [C.s_]at k
 | .aas,_,k=>by simp [C.s_]at k
 | .L_,_,k=>by simp [C.s_]at k
 | .fn _,_,k=>by simp [C.s_]at k
 | .held,_,k=>by simp [C.s_]at k
 | .any,_,k=>by simp [C.s_]at k
 | .afY ..,_,k=>by simp [C.s_]at k
 | .mp _,_,k=>by simp [C.s_]at k
 | .isl ..,_,k=>by simp [C.s_]at k
theorem Zk (p:Ak->Bool) (i:Ak): ∀ cs:List C,Dp p cs=false->BS i cs=true->p i=false
 | [],_,k=>by simp [BS]at k
 | c::cs,h,k=>by
   simp only [Dp,or_eq_false_iff]at h;simp only [BS,or_eq_true]at k;rcases k with k | k
   ·exact pg p i c h.1 k
   ·exact Zk p i cs h.2 k
end
mutual
theorem iG (p:Ak->Bool) (i:Ak): ∀ v:V,v.i_ p=false->v.s_ i=true->p i=false
 | .c x,h,k=>(by grind [pg,V.i_,V.s_])
 | .agg cs,h,k=>(by grind [Zk,V.i_,V.s_])
 | .tup vs,h,k=>rG p i vs (by simpa only [V.i_] using h) (by simpa only [V.s_] using k)
 | .g b v,h,k=>by simp only [V.s_,and_eq_true]at k;exact iG p i v (by simpa only [V.i_] using h) k.1
 | .undef,_,k=>by simp [V.s_]at k
theorem rG (p:Ak->Bool) (i:Ak): ∀ vs:List V,OC p vs=false->Ls i vs=true->p i=false
 | [],_,k=>by simp [Ls]at k
 | v::vs,h,k=>by
   simp only [OC,or_eq_false_iff]at h;simp only [Ls,or_eq_true]at k;rcases k with k | k
   ·exact iG p i v h.1 k
   ·exact rG p i vs h.2 k
end
theorem Zl {p:Ak->Bool} {i:Ak} {c:C} (h:(C1 p c).s_ i=true):p i=false:=by grind [C1,C.s_,pg]
theorem Zm {p:Ak->Bool} {i:Ak}: ∀ {cs:List C},BS i (cs.map (C1 p))=true->p i=false
 | [],h=>by simp [BS]at h
 | c::cs,h=>by
   simp only [map_cons,BS,or_eq_true]at h;rcases h with h | h
   ·exact Zl h
   ·exact Zm h
theorem JU {p:Ak->Bool} {i:Ak} {v:V} (h:(Ca p v).s_ i=true):p i=false:=by grind [Ca,V.s_,iG]
theorem Wx {p:Ak->Bool} {i:Ak}: ∀ {vs:List V},Ls i (vs.map (Ca p))=true->p i=false
 | [],h=>by simp [Ls]at h
 | v::vs,h=>by
   simp only [map_cons,Ls,or_eq_true]at h;rcases h with h | h
   ·exact JU h
   ·exact Wx h
theorem Zn {w:World} {G:AG} {p:Ak->Bool} {c:C} {v:Value} (h:Ah w G c v):Ah w G (C1 p c) v:=by
 unfold C1;split
 ·simp only [Ah];exact h.one
 ·exact h
theorem MP {w:World} {G:AG} {p:Ak->Bool}: ∀ {cs:List C} {b o:Nat},An w G cs b o->An w G (cs.map (C1 p)) b o
 | [],_,_,_=>by grind
 | c::cs,b,o,h=>by simp only [An,map_cons]at h ⊢;exact⟨h.1.imp fun v q=>⟨q.1,Zn q.2⟩,MP h.2⟩
theorem JV {w:World} {G:AG} {p:Ak->Bool} {x:V} {v:Value} (h:Ae w G x v):Ae w G (Ca p x) v:=by grind [Ca,Ae]
theorem Wy {w:World} {G:AG} {p:Ak->Bool}: ∀ {xs:List V} {vs:List Value},Aq w G xs vs->Aq w G (xs.map (Ca p)) vs
 | [],vs,h=>by grind
 | x::xs,vs,h=>by simp only [Aq,map_cons]at h ⊢;obtain⟨v,r,e,h1,h2⟩:=h;exact⟨v,r,e,JV h1,Wy h2⟩
theorem vR {p:Ak->Bool} {kv:List (Int×Int)}:[C.mp kv].map (C1 p)=[C.mp kv]:=by simp [C1,C.i_]
theorem ph {w:World} {G:AG} {p:Ak->Bool} {e:Ax} (h:Be w G e):Be w G (e.e_ p):=by
 obtain⟨i,r,cs,pu⟩:=e;cases pu with
 | true=>exact h
 | false=>
 unfold Be at *;cases r with
 | none=>
   obtain⟨b,h1,h2⟩:=h;refine⟨b,h1,?_⟩;rcases h2 with ⟨kv,es,h2,h3⟩ | ⟨T,cur,h2,h3,h4⟩
   ·dsimp only [Ax.e_]at h2 ⊢;rw [h2,vR];exact .inl ⟨kv,es,rfl,h3⟩
   ·exact .inr ⟨T,cur,h2,by simpa [Ax.e_] using h3,MP h4⟩
 | some q=>
   obtain⟨E,n,len⟩:=q;obtain⟨hl,v,h1,h2⟩:=h;refine⟨by grind [Ax.e_],v,h1,?_⟩;rcases h2 with h2 | ⟨b,cap,cur,e1,e2,e3,e4,e5,e6,e7⟩
   ·exact .inl h2
   ·exact .inr ⟨b,cap,cur,e1,e2,e3,e4,e5,e6,MP e7⟩
theorem vT {p:Ak->Bool} {i:Ak} {e:Ax} (hp:e.pu=true->Ap e.cs=true) (h:BS i (e.e_ p).cs =true):p i=false:=by
 obtain⟨j,r,cs,pu⟩:=e;cases pu with
 | true=>rw [show (Ax.e_ p ⟨j,r,cs,true⟩).cs =cs from rfl,AQ i cs (hp rfl)]at h;cases h
 | false=>exact Zm (cs:=cs) h
theorem BA.e_ {w:World} {G:AG} {p:Ak->Bool} {e:Ax} (h:BA w G e):BA w G (e.e_ p):=by
 obtain⟨i,r,cs,pu⟩:=e;cases pu with
 | true=>exact h
 | false=>exact⟨h.1,fun hd=>absurd (h.2 hd).1 (by simp)⟩
theorem QY {p:Ak->Bool} {e:Ax} (h:e.pu=true->Ap e.cs=true):(e.e_ p).pu =true->Ap (e.e_ p).cs =true:=by
 obtain⟨i,r,cs,pu⟩:=e;cases pu with
 | true=>exact h
 | false=>intro hq;cases hq
theorem vU (cs:List C):Dp (fun _=>false) cs=false:=by
 have key: ∀ c:C,c.i_ (fun _=>false)=false:=by intro c;induction c using C.rec (motive_2:=fun cs=>Dp (fun _=>false) cs=false)<;>simp_all [C.i_,Dp]
 induction cs<;>grind [Dp]
theorem zE (c:C):c.i_ (fun _=>false)=false:=by have:=vU [c];simpa [Dp] using this
theorem ff: ∀ cs:List C,cs.map (C1 (fun _=>false))=cs
 | []=>rfl
 | c::cs=>by rw [map_cons,ff cs,C1,if_neg (by simp [zE])]
theorem Ax.amM (e:Ax):e.e_ (fun _=>false)=e:=by
 obtain⟨i,r,cs,_ | _⟩:=e
 all_goals grind [Ax.e_,ff]
structure abb (F:Fr) (p q:Ak->Bool) (G G':AG) (w w':World):Prop where
 agree: ∀ i,p i=false->G'.p_ i=G.p_ i/\G'.own i=G.own i
 same: ∀ i b,q i=false->G.p_ i=some b->w'.heap[b]? =w.heap[b]?
 keeps:Cl G G' w w'
 outer:Ov w w'
 ext: ∀ b,b<F.w0.heap.size-> ¬F.old b->w'.heap[b]? =w.heap[b]?
 wr: ∀ b,G'.wr b↔F.av b\/ ∃ i,G'.p_ i=some b
 inj: ∀ i j b,G'.p_ i=some b->G'.p_ j=some b->i=j
 lt: ∀ i b,G'.p_ i=some b->b<w'.heap.size
 new: ∀ i b,G'.p_ i=some b->F.w0.heap.size<=b\/F.old b
def St.e_ (st:St) (p:Ak->Bool) (so:List Ax):St:={tm:=st.tm.map (Ca p),so:=so,gh:=st.gh.map (Ca p),pre:=st.pre}
section
variable {F:Fr} {st:St} {a:Act} {w w':World} {G G':AG} {p q:Ak->Bool}
theorem abb.ent (h:R F st a w G) (t:abb F p q G G' w w') {e:Ax} (he:e∈st.so) (hp:p e.id=false) (hq:q e.id=false):Be w' G' (e.e_ p):=by
 refine CM t.keeps (fun i hi=>t.agree i (vT (h.B_ e he) hi)) ?_ ?_ (ph (h.store e he))
 ·rw [Ax.E_];exact t.agree _ hp
 ·intro b hb;rw [Ax.E_]at hb;exact t.same _ b hq hb
theorem abb.deep (h:R F st a w G) (t:abb F p q G G' w w') {e:Ax} (he:e∈st.so) (hp:p e.id=false) (hq:q e.id=false) (hm:Fj e.id=true-> ∀ k,p (B9 k e.id)=false/\q (B9 k e.id)=false):BA w' G' (e.e_ p):=by
 refine BA.mono t.keeps (by rw [Ax.E_];exact t.agree _ hp) (fun hd k=>?_) ?_ (fun hd k b hb=>?_) (h.deep e he).e_
 ·rw [Ax.E_]at hd ⊢;exact t.agree _ (hm hd k).1
 ·intro b hb;rw [Ax.E_]at hb;exact t.same _ b hq hb
 ·rw [Ax.E_]at hd hb;exact t.same _ b (hm hd k).2 hb
theorem abb.rel (h:R F st a w G) (t:abb F p q G G' w w') (a_:St) (hl:a_.tm.length=st.tm.length) (hs: ∀ i,Ae w' G' (a_.tm.getD i .undef) (a.tmps.getD i Go.undef)) (hg:Aq w' G' a_.gh F.gv)
 (h1: ∀ e∈a_.so,Be w' G' e) (h2: ∀ e∈a_.so,BA w' G' e) (h3: ∀ e∈a_.so,e.pu=true->Ap e.cs=true) (h4:(a_.so.map (·.id)).Nodup):R F a_ a w' G' where
 dfr:=h.dfr
 size:=by rw [hl];exact h.size
 z_:=hs
 I_:=hg
 store:=h1
 deep:=h2
 B_:=h3
 nodup:=h4
 inj:=t.inj
 lt:=t.lt
 new:=t.new
 wr:=t.wr
 aaS:=h.aaS
 inv:=h.inv
 aaj:=h.aaj
 os:=t.outer.os.trans h.os
 tape:=t.outer.tape.trans h.tape
 output:=t.outer.output.trans h.output
 x_:=Nat.le_trans h.x_ t.keeps.size
 ext:=fun b hb ho=>(t.ext b hb ho).trans (h.ext b hb ho)
theorem abb.afP (h:R F st a w G) (t:abb F p q G G' w w') (so:List Ax)
 (h1: ∀ e∈so,Be w' G' e) (h2: ∀ e∈so,BA w' G' e) (h3: ∀ e∈so,e.pu=true->Ap e.cs=true) (h4:(so.map (·.id)).Nodup):R F (st.e_ p so) a w' G':=by
 refine t.rel h (st.e_ p so) (by simp [St.e_]) (fun i=>?_) ?_ h1 h2 h3 h4
 ·simp only [St.e_];rw [FS (by simp [Ca,V.i_])];exact Ae.mono t.keeps _ _ (fun i hi=>t.agree i (JU hi)) (JV (h.z_ i))
 ·exact Aq.mono t.keeps _ _ (fun i hi=>t.agree i (Wx hi)) (Wy h.I_)
theorem abb.kept (h:R F st a w G) (t:abb F (fun _=>false) q G G' w w') (so:List Ax)
 (h1: ∀ e∈so,Be w' G' e) (h2: ∀ e∈so,BA w' G' e) (h3: ∀ e∈so,e.pu=true->Ap e.cs=true) (h4:(so.map (·.id)).Nodup):R F {st with so:=so} a w' G':=
 t.rel h {st with so:=so} rfl (fun i=>Ae.mono t.keeps _ _ (fun i _=>t.agree i rfl) (h.z_ i)) (Aq.mono t.keeps _ _ (fun i _=>t.agree i rfl) h.I_) h1 h2 h3 h4
theorem lp (h:R F st a w G) {i0:Ak} {b:Nat} (hb:G.p_ i0=some b) {cur:Array Value} {T:TypeId} (hh:w.heap[b]? =some (.cells cur T (0,0))) (row:Array Value):abb F (fun _=>false) (· ==i0) G G w (w.setRow b row) where
 agree:=(by grind)
 same:=fun i b' hi hb'=>setRow_other w b b' _ (fun e=>by have:=h.inj i i0 b' hb' (by grind);grind)
 keeps:=⟨by simp,fun k _ hw=>setRow_other w b k _ (fun e=>hw ((h.wr k).2 (by grind))),fun _ _ q=>q,fun i k h1 _=>by
  by_cases hkb:k=b
  ·subst hkb;intro adr T' fz' hq;rw [hh]at hq;injection hq with hq;injection hq with _ hq _;subst hq;exact⟨_,_,setRow_heap w k cur row T (0,0) hh⟩
  grind [Cg.same,setRow_other]⟩
 outer:=⟨by simp,by simp,by simp⟩
 ext:=fun k hk ho=>setRow_other w b k _ (fun e=>by
  rcases h.new i0 b hb with q | q
  all_goals grind)
 wr:=h.wr
 inj:=h.inj
 lt:=fun i k hi=>by simpa using h.lt i k hi
 new:=h.new
theorem JW (h:R F st a w G) (G':AG) (hw:G'.wr=fun b=>F.av b\/ ∃ i,G'.p_ i=some b) (ha: ∀ i,p i=false->G'.p_ i=G.p_ i/\G'.own i=G.own i) (hs: ∀ i b,G'.p_ i=some b-> ∃ j,G.p_ j=some b)
 (hi: ∀ i j b,G'.p_ i=some b->G'.p_ j=some b->i=j):abb F p (fun _=>false) G G' w w where
 agree:=ha
 same:=fun _ _ _ _=>rfl
 keeps:=⟨le_refl _,fun _ _ _=>rfl,fun b _ hb=>by rw [hw]at hb;rw [h.wr];grind,fun _ _ _ _=>Cg.same rfl⟩
 outer:=⟨rfl,rfl,rfl⟩
 ext:=fun _ _ _=>rfl
 wr:=fun b=>by rw [hw]
 inj:=hi
 lt:=fun i b hb=>by obtain⟨j,hj⟩:=hs i b hb;exact h.lt j b hj
 new:=fun i b hb=>by obtain⟨j,hj⟩:=hs i b hb;exact h.new j b hj
theorem R.uniq (h:R F st a w G) {d e:Ax} (hd:d∈st.so) (he:e∈st.so) (hi:d.id=e.id):d=e:=by have:=List.pairwise_map.1 h.nodup;rcases mem_iff_getElem.1 hd with ⟨i,hi1,rfl⟩;rcases mem_iff_getElem.1 he with ⟨j,hj1,rfl⟩;grind [List.pairwise_iff_getElem]
end
def St.Ti (st:St) (id:Ak):Option Ax:=st.so.find? (fun e=>e.id==id&&Fj e.id)
theorem PS {st:St} {id:Ak} {e:Ax} (h:st.Ti id=some e):e∈st.so/\e.id=id/\Fj id=true:=by have:=find?_some h;simp only [and_eq_true,beq_iff_eq]at this;exact⟨List.mem_of_find?_eq_some h,this.1,by grind⟩
def X_ (id:Ak) (row:Option (TypeId×Nat×Nat)) (cells:List C) (e:Ax):Ax:=match e.id==id with
 | true=>⟨e.id,row,cells,e.pu⟩
 | false=>e
theorem iH (id:Ak) (row:Option (TypeId×Nat×Nat)) (cells:List C) (e:Ax):(X_ id row cells e).id =e.id:=by grind [X_]
theorem Gu {id:Ak} {row:Option (TypeId×Nat×Nat)} {cells:List C} {e:Ax} (h:e.id ≠ id):X_ id row cells e=e:=by grind [X_]
theorem Gv {id:Ak} {row:Option (TypeId×Nat×Nat)} {cells:List C} {e:Ax} (h:e.id=id):X_ id row cells e=⟨e.id,row,cells,e.pu⟩:=by grind [X_]
def EL (id:Ak):Ak->Bool
 | m::_::j=>Nat.beq m 1000007&&j==id
 | _=>false
theorem JX (id:Ak) (k:Nat) (j:Ak):EL id (B9 k j)=(j==id):=by simp [EL,B9]
theorem K0 {w:World} {G:AG}: ∀ {cs:List C} {b o j:Nat} {c:C},An w G cs b o->(∀ v d,cs[j]? =some d->w.cell? ⟨b,o+j,none⟩=some v->Ah w G d v->Ah w G c v)->An w G (cs.set j c) b o
 | [],_,_,_,_,h,_=>by grind
 | d::cs,b,o,0,c,h,hc=>by grind [An]
 | d::cs,b,o,j+1,c,h,hc=>by simp only [An]at h;simp only [List.set_cons_succ,An];exact⟨h.1,K0 h.2 (fun v d hd hv=>hc v d (by simpa using hd) (by rw [show o+(j+1)=o+1+j by omega];exact hv))⟩
section
variable {F:Fr} {st:St} {a:Act} {w w':World} {G G':AG} {p q:Ak->Bool}
theorem R.abl (h:R F st a w G) {id:Ak} {e:Ax} (hl:st.Ti id=some e):e∈st.so/\e.id=id/\Fj id=true/\Dh id=false/\e.pu=true/\Ap e.cs=true/\Fz w G e/\ ∃ E n len,e.row=some (E,n,len):=by obtain⟨hm,hid,hd⟩:=PS hl;obtain⟨h1,h2⟩:=h.deep e hm;obtain⟨h3,h4,h5⟩:=h2 (by rw [hid];exact hd);refine⟨hm,hid,hd,by grind,h3,h.B_ e hm h3,h5,?_⟩;cases hr:e.row<;>grind
theorem R.inner (h:R F st a w G) {id:Ak} {e:Ax} (hl:st.Ti id=some e) {k n len:Nat} {E:TypeId} {cs:List C} (hk:e.cs[k]? =some (.isl E n len cs)):
 Ap cs=true/\Be w G ⟨B9 k id,some (E,n,len),cs,true⟩/\ ∃ b v,G.p_ id=some b/\w.cell? ⟨b,k,none⟩=some v/\G.own (B9 k id)=some v:=by
 obtain⟨hm,hid,hd,_,_,_,hi,_⟩:=h.abl hl;have:=hi k E n len cs hk;grind
theorem R.aes (h:R F st a w G) {id:Ak} {e:Ax} (hl:st.Ti id=some e) {b:Nat} (hb:G.p_ id=some b): ∃ E n len v cap cur,e.row=some (E,n,len)/\e.cs.length=len*n/\G.own id=some v/\v= .slice (some ⟨b,0,none⟩) len cap/\w.heap[b]? =some (.cells cur E (0,0))/\len<=cap/\cap<=maxLen/\cur.size=cap*n/\An w G e.cs b 0:=by obtain⟨hm,hid,_,_,_,_,_,E,n,len,hr⟩:=h.abl hl;have hE:=h.store e hm;grind [Be]
theorem abb.alQ (h:R F st a w G) (t:abb F p q G G' w w') {id:Ak} {e:Ax} (hl:st.Ti id=some e) (f:Ax->Bool) (hf: ∀ d∈st.so,f d=true->d.id ≠ id->p d.id=false/\q d.id=false/\(Fj d.id=true-> ∀ k,p (B9 k d.id)=false/\q (B9 k d.id)=false))
 {cells:List C} {row:Option (TypeId×Nat×Nat)} (hrs:row.isSome=true) (h1:Be w' G' ⟨id,row,cells,true⟩) (h2:Fz w' G' ⟨id,row,cells,true⟩) (h3:Ap cells=true):
 (∀ d∈((st.so.filter f).map (Ax.e_ p)).map (X_ id row cells),Be w' G' d)/\(∀ d∈((st.so.filter f).map (Ax.e_ p)).map (X_ id row cells),BA w' G' d)/\
 (∀ d∈((st.so.filter f).map (Ax.e_ p)).map (X_ id row cells),d.pu=true->Ap d.cs=true)/\((((st.so.filter f).map (Ax.e_ p)).map (X_ id row cells)).map (·.id)).Nodup :=by
 obtain⟨hm,hid,hd,hmk,hpu,hpe,hi,E,n,len,hr⟩:=h.abl hl;have key: ∀ d∈((st.so.filter f).map (Ax.e_ p)).map (X_ id row cells),(d=⟨id,row,cells,true⟩)\/ ∃ x∈st.so,f x=true/\x.id ≠ id/\d=x.e_ p:=by
  intro d hd;simp only [map_map,mem_map,mem_filter,Function.comp]at hd;obtain⟨x,⟨hx,hfx⟩,rfl⟩:=hd;by_cases hxi:x.id=id
  ·have:=h.uniq hx hm (hxi.trans hid.symm);subst this;left;have hk:x.e_ p=x:=by obtain⟨i,r,cs,pu⟩:=x;simp only at hpu;subst hpu;rfl
   grind [Gv]
  grind [Gu,Ax.E_]
 refine⟨fun d hd'=>?_,fun d hd'=>?_,fun d hd'=>?_,?_⟩
 ·rcases key d hd' with rfl | ⟨x,hx,hfx,hxi,rfl⟩
  ·exact h1
  ·obtain⟨k1,k2,_⟩:=hf x hx hfx hxi;exact t.ent h hx k1 k2
 ·rcases key d hd' with rfl | ⟨x,hx,hfx,hxi,rfl⟩
  ·exact⟨hmk,fun _=>⟨rfl,hrs,h2⟩⟩
  ·obtain⟨k1,k2,k3⟩:=hf x hx hfx hxi;exact t.deep h hx k1 k2 k3
 ·rcases key d hd' with rfl | ⟨x,hx,hfx,hxi,rfl⟩
  ·grind
  ·exact QY (h.B_ x hx)
 ·have:(((st.so.filter f).map (Ax.e_ p)).map (X_ id row cells)).map (·.id)=(st.so.filter f).map (·.id):=by simp_all [iH,Ax.E_]
  rw [this];exact List.Sublist.nodup (by grind [filter_sublist]) h.nodup
theorem Si (l:List Ax):l.map (Ax.e_ fun _=>false)=l:=by induction l<;>grind [Ax.amM]
end
end Go.PL
namespace Go.PL
open Go Go.RowKit
section
variable {F:Fr} {st:St} {a:Act} {w w':World} {G G':AG} {p q:Ak->Bool}
theorem K1 (l:List Ax):l.filter (fun _=>true)=l:=(by simp_all)
theorem DI {id j:Ak} (h:Dh id=false) (k:Nat):id ≠ B9 k j:=fun e=>by rw [e]at h;cases h
theorem Wz (h:R F st a w G) {i0:Ak} (d:Ax) (hd:d∈st.so) (hne:d.id ≠ i0) (hmk: ∀ k,Fj d.id=true->B9 k d.id ≠ i0):
 (fun _=>false:Ak->Bool) d.id=false/\(d.id==i0)=false/\(Fj d.id=true-> ∀ k,(fun _=>false:Ak->Bool) (B9 k d.id)=false/\(B9 k d.id==i0)=false):=
 (by grind)
def St.aew (st:St) (id:Ak) (row:Option (TypeId×Nat×Nat)) (cells:List C):St:={st with so:=st.so.map (X_ id row cells)}
theorem R.af8 (h:R F st a w G) {id:Ak} {e:Ax} (hl:st.Ti id=some e) {k n len:Nat} {E:TypeId} {cs:List C} (hk:e.cs[k]? =some (.isl E n len cs)) {b:Nat} (hb:G.p_ (B9 k id)=some b)
 {off:Nat} {xs:List C} {vs:List Value} (hx:Al w G xs vs) (acn:off+xs.length<=cs.length) (hp:Ap xs=true):
 ∃ cur T,w.heap[b]? =some (.cells cur T (0,0))/\off+vs.length<=cur.size/\
   R F (st.aew id e.row (e.cs.set k (.isl E n len (cs.take off++xs++cs.drop (off+xs.length))))) a (w.setRow b (cur.toList.take off++vs++cur.toList.drop (off+vs.length)).toArray) G:=by
 obtain⟨hm,hid,hd,hmk,hpu,hpe,hi,E0,n0,ahu,hr⟩:=h.abl hl;obtain⟨hpc,hE,bo,vo,hbo,ab9,aaz⟩:=h.inner hl hk;unfold Be at hE;obtain⟨hcl,v,h1,h2 | ⟨b',cap,cur,e1,e2,e3,e4,e5,e6,e7⟩⟩:=hE
 ·grind
 rw [show (⟨B9 k id,some (E,n,len),cs,true⟩:Ax).id =B9 k id from rfl]at h1 e2;rw [hb]at e2;injection e2 with e2;subst e2;obtain⟨us,r1,r2⟩:=e7.list;simp only at r1 e7 hcl;have hlx:=hx.length;have hlu:=r1.length;have hle:cs.length<=cur.size:=by simp_all [Nat.mul_le_mul_right]
 have amZ:=HO e3 r2;refine⟨cur,E,e3,by omega,?_⟩;have t:=lp h hb e3 (cur.toList.take off++vs++cur.toList.drop (off+vs.length)).toArray;have aaF:=setRow_heap w b cur (cur.toList.take off++vs++cur.toList.drop (off+vs.length)).toArray E (0,0) e3;have ag4:(us.take off++vs++us.drop (off+vs.length))++cur.toList.drop us.length=(cur.toList.take off++vs++cur.toList.drop (off+vs.length)).toArray.toList :=by grind
 have ag6:=BO aaF ag4;have hl2:Al w G (cs.take off++xs++cs.drop (off+xs.length)) (us.take off++vs++us.drop (off+vs.length)):=by rw [hlx];exact((r1.take off).append hx).append (r1.drop _)
 have ac_:=An.aaA (Al.mono t.keeps _ _ (fun _ _=>⟨rfl,rfl⟩) hl2) ag6;have hlen:(cs.take off++xs++cs.drop (off+xs.length)).length =cs.length:=by simp;omega
 have aqX:(cur.toList.take off++vs++cur.toList.drop (off+vs.length)).toArray.size =cur.size:=by simp;omega
 have hpx:Ap (cs.take off++xs++cs.drop (off+xs.length))=true:=by grind [B0,MF,MG]
 have hne:bo ≠ b:=fun q=>DI hmk k (h.inj _ _ bo hbo (by rw [q];exact hb));have hcs: ∀ o,(w.setRow b (cur.toList.take off++vs++cur.toList.drop (off+vs.length)).toArray).cell? ⟨bo,o,none⟩=w.cell? ⟨bo,o,none⟩:=(by grind [Z_,setRow_other]);obtain⟨E1,n1,aj5,v1,ab_,ajb,g1,g2,g3,g4,g5,g6,g7,g8,g9⟩:=h.aes hl hbo;have hcells:Ap (e.cs.set k (.isl E n len (cs.take off++xs++cs.drop (off+xs.length))))=true:=by
  rw [Cu,all_eq_true]at hpe ⊢;intro c hc;rcases List.mem_or_eq_of_mem_set hc with q | q
  ·grind
  ·rw [q];rfl
 have afu:Be (w.setRow b (cur.toList.take off++vs++cur.toList.drop (off+vs.length)).toArray) G ⟨id,e.row,e.cs.set k (.isl E n len (cs.take off++xs++cs.drop (off+xs.length))),true⟩:=by unfold Be;rw [g1];refine⟨by grind,v1,g3, .inr ⟨bo,ab_,ajb,g4,hbo,by grind [setRow_other],g6,g7,g8,?_⟩⟩;refine K0 (An.mono t.keeps _ _ _ (fun _ _=>⟨rfl,rfl⟩) hcs g9) (fun u d hd _ hrd=>?_);grind [Ah]
 have hin:Fz (w.setRow b (cur.toList.take off++vs++cur.toList.drop (off+vs.length)).toArray) G ⟨id,e.row,e.cs.set k (.isl E n len (cs.take off++xs++cs.drop (off+xs.length))),true⟩:=by
  intro j E2 n2 abf cs2 hj;simp only [getElem?_set]at hj;split at hj
  ·rename_i hkj;subst hkj;split at hj
   ·injection hj with hj;injection hj with q1 q2 q3 q4;subst q1 q2 q3 q4;refine⟨hpx,?_,bo,vo,hbo,by grind,aaz⟩;unfold Be;exact⟨by grind,v,h1, .inr ⟨b,cap,_,e1,hb,aaF,e4,e5,by grind,ac_⟩⟩
   ·cases hj
  ·rename_i hkj;obtain⟨k1,k2,b2,v2,k3,k4,k5⟩:=h.inner hl hj;refine⟨k1,CM t.keeps (fun _ _=>⟨rfl,rfl⟩) ⟨rfl,rfl⟩ (fun b3 hb3=>setRow_other w b b3 _ (fun q=>?_)) k2,b2,v2,k3,?_,k5⟩
   ·have:=h.inj _ _ b3 hb3 (by rw [q];exact hb);grind [R3]
   grind
 have aaq:=t.alQ h hl (fun _=>true) (fun d hd' _ adq=>Wz h d hd' (fun q2=>DI (h.deep d hd').1 k q2) (by grind [R3])) (by rw [g1];rfl) afu hin hcells;rw [K1,Si]at aaq;exact t.kept h _ aaq.1 aaq.2.1 aaq.2.2.1 aaq.2.2.2
def pi:C->Bool
 | .isl .. =>false
 | _=>true
theorem R.acG (h:R F st a w G) {id:Ak} {e:Ax} (hl:st.Ti id=some e) {b:Nat} (hb:G.p_ id=some b)
 {off:Nat} {xs:List C} {vs:List Value} (hx:Al w G xs vs) (acn:off+xs.length<=e.cs.length) (hp:Ap xs=true) (hn:xs.all pi=true):
 ∃ cur T,w.heap[b]? =some (.cells cur T (0,0))/\off+vs.length<=cur.size/\
   R F (st.aew id e.row (e.cs.take off++xs++e.cs.drop (off+xs.length))) a (w.setRow b (cur.toList.take off++vs++cur.toList.drop (off+vs.length)).toArray) G:=by
 obtain⟨hm,hid,hd,hmk,hpu,hpe,hi,E0,n0,ahu,hr⟩:=h.abl hl;obtain⟨E,n,len,v,cap,cur,g1,g2,g3,g4,g5,g6,g7,g8,g9⟩:=h.aes hl hb;obtain⟨us,r1,r2⟩:=g9.list;have hlx:=hx.length;have hlu:=r1.length;have hle:e.cs.length<=cur.size:=by simp_all [Nat.mul_le_mul_right]
 have amZ:=HO g5 r2;refine⟨cur,E,g5,by omega,?_⟩;have t:=lp h hb g5 (cur.toList.take off++vs++cur.toList.drop (off+vs.length)).toArray;have aaF:=setRow_heap w b cur (cur.toList.take off++vs++cur.toList.drop (off+vs.length)).toArray E (0,0) g5;have ag4:(us.take off++vs++us.drop (off+vs.length))++cur.toList.drop us.length=(cur.toList.take off++vs++cur.toList.drop (off+vs.length)).toArray.toList :=by grind
 have ag6:=BO aaF ag4;have hl2:Al w G (e.cs.take off++xs++e.cs.drop (off+xs.length)) (us.take off++vs++us.drop (off+vs.length)):=by rw [hlx];exact((r1.take off).append hx).append (r1.drop _)
 have ac_:=An.aaA (Al.mono t.keeps _ _ (fun _ _=>⟨rfl,rfl⟩) hl2) ag6;have hlen:(e.cs.take off++xs++e.cs.drop (off+xs.length)).length =e.cs.length:=by simp;omega
 have aqX:(cur.toList.take off++vs++cur.toList.drop (off+vs.length)).toArray.size =cur.size:=by simp;omega
 have hpx:Ap (e.cs.take off++xs++e.cs.drop (off+xs.length))=true:=by grind [B0,MF,MG]
 have afu:Be (w.setRow b (cur.toList.take off++vs++cur.toList.drop (off+vs.length)).toArray) G ⟨id,e.row,e.cs.take off++xs++e.cs.drop (off+xs.length),true⟩:=by unfold Be;rw [g1];exact⟨by grind,v,g3, .inr ⟨b,cap,_,g4,hb,aaF,g6,g7,by grind,ac_⟩⟩
 have hin:Fz (w.setRow b (cur.toList.take off++vs++cur.toList.drop (off+vs.length)).toArray) G ⟨id,e.row,e.cs.take off++xs++e.cs.drop (off+xs.length),true⟩:=by
  intro j E2 n2 abf cs2 hj;simp only at hj;have hj2:(j<off\/off+xs.length<=j)/\e.cs[j]? =some (.isl E2 n2 abf cs2):=by
   rw [append_assoc]at hj;have htl:(e.cs.take off).length =off:=by grind
   by_cases q1:j<off
   ·grind
   ·rw [getElem?_append_right (by omega),htl]at hj;by_cases q2:j<off+xs.length
    ·rw [List.getElem?_append_left (by omega)]at hj;have:=all_eq_true.1 hn _ (mem_of_getElem? hj);cases this
    grind
  obtain⟨k1,k2,b2,v2,k3,k4,k5⟩:=h.inner hl hj2.2;rw [hb]at k3;injection k3 with k3;subst k3;refine⟨k1,CM t.keeps (fun _ _=>⟨rfl,rfl⟩) ⟨rfl,rfl⟩ (fun b3 hb3=>setRow_other w b b3 _ (fun q=>?_)) k2,b,v2,hb,?_,k5⟩
  ·exact DI hmk j (h.inj _ _ b hb (by rw [<-q];exact hb3))
  ·have hjl:j<e.cs.length:=(by grind);simp only [World.cell?,aaF];simp only [World.cell?,g5]at k4;have hold:cur.toList[j]? =some v2:=by grind
   have htl:(cur.toList.take off).length =off:=by grind
   have:(cur.toList.take off++vs++cur.toList.drop (off+vs.length))[j]? =some v2:=by
    rw [append_assoc];rcases hj2.1 with q1 | q1
    ·grind
    ·rw [getElem?_append_right (by omega),htl,getElem?_append_right (by omega),List.getElem?_drop];grind
   grind
 have aaq:=t.alQ h hl (fun _=>true) (fun d hd' _ adq=>Wz h d hd' adq (by grind [DI])) (by rw [g1];rfl) afu hin hpx;rw [K1,Si]at aaq;exact t.kept h _ aaq.1 aaq.2.1 aaq.2.2.1 aaq.2.2.2
theorem JY {id i:Ak} (h:EL id i=true):Dh i=true:=by
 match i,h with
 | m::k::j,h=>
   simp only [EL,and_eq_true]at h;exact h.1
theorem rH {id i:Ak} (h:EL id i=true): ∃ k,i=B9 k id:=by
 match i,h with
 | m::k::j,h=>
   simp only [EL,and_eq_true,beq_iff_eq]at h;have h1:=eq_of_beq_eq_true h.1;subst h1;rw [h.2];exact⟨k,rfl⟩
def pD (r id i:Ak):Bool:=i==r||EL id i
theorem vV (h:R F st a w G) {r id:Ak} (hr:Dh r=false) {d:Ax} (hd:d∈st.so) (h1:d.id ≠ r) (h2:d.id ≠ id):pD r id d.id=false/\(Fj d.id=true-> ∀ k,pD r id (B9 k d.id)=false/\(fun _=>false:Ak->Bool) (B9 k d.id)=false):=by
 refine⟨?_,fun _ k=>⟨?_,rfl⟩⟩
 ·unfold pD;rw [show (d.id==r)=false by simpa using h1,Bool.false_or];cases hq:EL id d.id with
  | false=>rfl
  | true=>
    have:=JY hq;rw [(h.deep d hd).1]at this;cases this
 ·unfold pD;rw [show (B9 k d.id==r)=false by simpa using (DI hr k).symm,Bool.false_or,JX];grind
theorem R.alh (h:R F st a w G) {id r:Ak} {e er:Ax} (hl:st.Ti id=some e) (hr:st.look r=some er) {E:TypeId} {n len:Nat} (IN:er.row=some (E,n,len)) (hpr:er.pu=true)
 {k b:Nat} {v:Value} (hb:G.p_ id=some b) (hc:w.cell? ⟨b,k,none⟩=some v) (ho:G.own r=some v) (hk:k<e.cs.length):
 ∃ G',R F (st.e_ (pD r id) (((st.so.filter (fun d=>d.id != r)).map (Ax.e_ (pD r id))).map (X_ id e.row (e.cs.set k (.isl E n len er.cs))))) a w G'/\G'.own id=G.own id/\G'.p_ id=G.p_ id/\ ∀ i,pD r id i=false->G'.p_ i=G.p_ i/\G'.own i=G.own i:=by
 obtain⟨hm,hid,hd,hmk,hpu,hpe,hi,E0,n0,ahu,hr0⟩:=h.abl hl;obtain⟨hmr,afV⟩:=Bh hr;have akp:=FA hr;have ai7:Dh r=false:=by rw [<-afV];exact(h.deep er hmr).1
 have ai4:r ≠ id:=(by grind);have hpc:=h.B_ er hmr hpr;let G':AG:=⟨fun i=>if i=r then none else if i=B9 k id then G.p_ r else G.p_ i,fun i=>if i=r then none else if i=B9 k id then G.own r else G.own i,fun b=>F.av b\/ ∃ i,(if i=r then none else if i=B9 k id then G.p_ r else G.p_ i)=some b⟩;have hag: ∀ i,pD r id i=false->G'.p_ i=G.p_ i/\G'.own i=G.own i:=by intro i hpi;simp only [pD,or_eq_false_iff,beq_eq_false_iff_ne]at hpi;have h2:i ≠ B9 k id:=(by grind [JX]);grind
 have t:abb F (pD r id) (fun _=>false) G G' w w:=JW h G' rfl hag (by grind) (fun i j b hib hjb=>by
  simp only [G']at hib hjb;split at hib
  ·cases hib
  ·rename_i q1;split at hjb
   ·cases hjb
   ·rename_i q2;split at hib<;>split at hjb
    ·simp_all
    ·exact absurd (h.inj _ _ b hjb hib) q2
    ·exact absurd (h.inj _ _ b hib hjb) q1
    ·exact h.inj _ _ b hib hjb)
 have hne:id ≠ B9 k id:=DI hmk k;have gid:G'.p_ id=G.p_ id/\G'.own id=G.own id:=(by grind);have gk:G'.p_ (B9 k id)=G.p_ r/\G'.own (B9 k id)=G.own r:=by have:B9 k id ≠ r:=(DI ai7 k).symm;grind
 have gj: ∀ j,j ≠ k->G'.p_ (B9 j id)=G.p_ (B9 j id)/\G'.own (B9 j id)=G.own (B9 j id):=by intro j hj;have h1:B9 j id ≠ r:=(DI ai7 j).symm;have h2:B9 j id ≠ B9 k id:=fun q=>hj (R3 q).1;grind
 obtain⟨E1,n1,aj5,v1,ab_,ajb,g1,g2,g3,g4,g5,g6,g7,g8,g9⟩:=h.aes hl hb;have hcells:Ap (e.cs.set k (.isl E n len er.cs))=true:=by
  rw [Cu,all_eq_true]at hpe ⊢;intro c hc;rcases List.mem_or_eq_of_mem_set hc with q | q
  ·grind
  ·rw [q];rfl
 have hno: ∀ cs:List C,Ap cs=true->KO (fun i=>BS i cs=true) G G':=fun cs hp i hi'=>absurd (show BS i cs=true from hi') (by rw [AQ i cs hp];simp);have afu:Be w G' ⟨id,e.row,e.cs.set k (.isl E n len er.cs),true⟩:=by unfold Be;rw [g1];refine⟨by grind,v1,by grind, .inr ⟨b,ab_,ajb,g4,by grind,g5,g6,g7,g8,?_⟩⟩;refine K0 (An.mono t.keeps _ _ _ (hno _ hpe) (fun _=>rfl) g9) (fun u d _ _ hrd=>?_);simp only [Ah];exact hrd.one
 have hin:Fz w G' ⟨id,e.row,e.cs.set k (.isl E n len er.cs),true⟩:=by
  intro j E2 n2 abf cs2 hj;simp only [getElem?_set]at hj;split at hj
  ·rename_i hkj;subst hkj
   ·injection hj with hj;injection hj with q1 q2 q3 q4;subst q1 q2 q3 q4;refine⟨hpc,?_,b,v,by grind,hc,by grind⟩;have hE:=h.store er hmr;unfold Be at hE ⊢;rw [IN]at hE;obtain⟨c1,v2,c2,c3⟩:=hE;refine⟨c1,v2,by grind,?_⟩;rcases c3 with ⟨p,c3,c4,c5⟩ | ⟨b',cap,cur,e1,e2,e3,e4,e5,e6,e7⟩
    ·grind
    ·exact .inr ⟨b',cap,cur,e1,by grind,e3,e4,e5,e6,An.mono t.keeps _ _ _ (hno _ hpc) (fun _=>rfl) e7⟩
  ·rename_i hkj;obtain⟨k1,k2,b2,v2,k3,k4,k5⟩:=h.inner hl hj;have gjj:=gj j (fun q=>hkj q.symm);exact⟨k1,CM t.keeps (hno _ k1) gjj (fun _ _=>rfl) k2,b2,v2,by grind,k4,by grind⟩
 have aaq:=t.alQ h hl (fun d=>d.id != r) (fun d hd' hf adq=>by have:=vV h (id:=id) ai7 hd' (by simpa using hf) adq;grind) (by rw [g1];rfl) afu hin hcells
 exact⟨G',t.afP h _ aaq.1 aaq.2.1 aaq.2.2.1 aaq.2.2.2,gid.2,gid.1,hag⟩
theorem R.anq (h:R F st a w G) {id r:Ak} {e er:Ax} (hl:st.Ti id=some e) (hr:st.look r=some er) {E:TypeId} {n len:Nat} (IN:er.row=some (E,n,len)) (hpr:er.pu=true)
 {k b:Nat} {v:Value} (hb:G.p_ id=some b) (hc:w.cell? ⟨b,k,none⟩=some v) (ho:G.own r=some v) (hk:k<e.cs.length):
 ∃ G',R F (st.e_ (pD r id) (((st.so.filter (fun d=>d.id != r)).map (Ax.e_ (pD r id))).map (X_ id e.row (e.cs.set k (.isl E n len er.cs))))) a w G'/\G'.own id=G.own id:=by
 obtain⟨G',a,b,_⟩:=h.alh hl hr IN hpr hb hc ho hk;grind
theorem R.extract (h:R F st a w G) {id r:Ak} {e:Ax} (hl:st.Ti id=some e) {k n len:Nat} {E:TypeId} {cs:List C} (hk:e.cs[k]? =some (.isl E n len cs)) (ai7:Dh r=false) (akp:Fj r=false):
 ∃ G',R F (st.e_ (pD r id) (⟨r,some (E,n,len),cs,true⟩::((st.so.filter (fun d=>d.id != r)).map (Ax.e_ (pD r id))).map (X_ id e.row (e.cs.set k .any)))) a w G'/\
   ∃ b v,G.p_ id=some b/\w.cell? ⟨b,k,none⟩=some v/\G'.own r=some v/\v.oneCell'=true:=by
 obtain⟨hm,hid,hd,hmk,hpu,hpe,hi,E0,n0,ahu,hr0⟩:=h.abl hl;obtain⟨hpc,hE,b,v,hb,hc,ho⟩:=h.inner hl hk;have ai4:r ≠ id:=(by grind);let G':AG:=⟨fun i=>if i=r then G.p_ (B9 k id)else if i=B9 k id then none else G.p_ i,fun i=>if i=r then G.own (B9 k id)else if i=B9 k id then none else G.own i,fun b=>F.av b\/ ∃ i,(if i=r then G.p_ (B9 k id)else if i=B9 k id then none else G.p_ i)=some b⟩;have hag: ∀ i,pD r id i=false->G'.p_ i=G.p_ i/\G'.own i=G.own i:=by intro i hpi;simp only [pD,or_eq_false_iff,beq_eq_false_iff_ne]at hpi;have h2:i ≠ B9 k id:=(by grind [JX]);grind
 have t:abb F (pD r id) (fun _=>false) G G' w w:=JW h G' rfl hag (by grind) (fun i j b hib hjb=>by
  simp only [G']at hib hjb;split at hib<;>split at hjb
  ·simp_all
  ·split at hjb
   ·cases hjb
   ·rename_i q2 q3;exact absurd (h.inj _ _ b hjb hib) q3
  ·split at hib
   ·cases hib
   ·rename_i q3;exact absurd (h.inj _ _ b hib hjb) q3
  ·split at hib
   ·cases hib
   ·split at hjb
    ·cases hjb
    ·exact h.inj _ _ b hib hjb)
 have hne:id ≠ B9 k id:=DI hmk k;have gid:G'.p_ id=G.p_ id/\G'.own id=G.own id:=(by grind);have gr:G'.p_ r=G.p_ (B9 k id)/\G'.own r=G.own (B9 k id):=(by grind);have gj: ∀ j,j ≠ k->G'.p_ (B9 j id)=G.p_ (B9 j id)/\G'.own (B9 j id)=G.own (B9 j id):=by intro j hj;have h1:B9 j id ≠ r:=(DI ai7 j).symm;have h2:B9 j id ≠ B9 k id:=fun q=>hj (R3 q).1;grind
 obtain⟨E1,n1,aj5,v1,ab_,ajb,g1,g2,g3,g4,g5,g6,g7,g8,g9⟩:=h.aes hl hb;have hcells:Ap (e.cs.set k .any)=true:=by
  rw [Cu,all_eq_true]at hpe ⊢;intro c hc;rcases List.mem_or_eq_of_mem_set hc with q | q
  ·grind
  ·rw [q];rfl
 have hno: ∀ cs:List C,Ap cs=true->KO (fun i=>BS i cs=true) G G':=fun cs hp i hi'=>absurd (show BS i cs=true from hi') (by rw [AQ i cs hp];simp);have afu:Be w G' ⟨id,e.row,e.cs.set k .any,true⟩:=by unfold Be;rw [g1];refine⟨by grind,v1,by grind, .inr ⟨b,ab_,ajb,g4,by grind,g5,g6,g7,g8,?_⟩⟩;refine K0 (An.mono t.keeps _ _ _ (hno _ hpe) (fun _=>rfl) g9) (fun u d _ _ hrd=>?_);grind [Ah]
 have hin:Fz w G' ⟨id,e.row,e.cs.set k .any,true⟩:=by
  intro j E2 n2 abf cs2 hj;simp only [getElem?_set]at hj;split at hj
  ·grind
  ·rename_i hkj;obtain⟨k1,k2,b2,v2,k3,k4,k5⟩:=h.inner hl hj;have gjj:=gj j (fun q=>hkj q.symm);exact⟨k1,CM t.keeps (hno _ k1) gjj (fun _ _=>rfl) k2,b2,v2,by grind,k4,by grind⟩
 have aaq:=t.alQ h hl (fun d=>d.id != r) (fun d hd' hf adq=>by have:=vV h (id:=id) ai7 hd' (by simpa using hf) adq;grind) (by rw [g1];rfl) afu hin hcells
 have acK:v.oneCell'=true:=by unfold Be at hE;obtain⟨_,v2,c2,c3⟩:=hE;rw [show (⟨B9 k id,some (E,n,len),cs,true⟩:Ax).id =B9 k id from rfl,ho]at c2;injection c2 with c2;subst c2;rcases c3 with ⟨p,rfl,_⟩ | ⟨b',cap,cur,rfl,_⟩<;>rfl
 refine⟨G',t.afP h _ ?_ ?_ ?_ ?_,b,v,hb,hc,by grind,acK⟩
 ·intro x hx;rcases mem_cons.1 hx with rfl | hx
  ·unfold Be at hE ⊢;obtain⟨c1,v2,c2,c3⟩:=hE;refine⟨c1,v2,by grind,?_⟩;rcases c3 with ⟨p,c3,c4,c5⟩ | ⟨b',cap,cur,e1,e2,e3,e4,e5,e6,e7⟩
   ·grind
   ·exact .inr ⟨b',cap,cur,e1,by grind,e3,e4,e5,e6,An.mono t.keeps _ _ _ (hno _ hpc) (fun _=>rfl) e7⟩
  grind
 ·intro x hx;rcases mem_cons.1 hx with rfl | hx
  all_goals grind [BA.an5]
 ·grind
 ·rw [map_cons];refine nodup_cons.2 ⟨?_,aaq.2.2.2⟩;simp only [map_map,mem_map,mem_filter,Function.comp,iH,Ax.E_,not_exists,not_and];grind
theorem R.ala (h:R F st a w G) {r id:Ak} {er:Ax} (hr:st.look r=some er) {E:TypeId} {n len:Nat} (IN:er.row=some (E,n,len)) (hpr:er.pu=true) (hn:er.cs.all pi=true) (hd:Fj id=true) (hmk:Dh id=false):
 ∃ G',R F (st.e_ (fun i=>i==r||(i==id||EL id i)) (⟨id,some (E,n,len),er.cs,true⟩::((st.so.filter (fun d=>d.id != r&&d.id != id)).map (Ax.e_ (fun i=>i==r||(i==id||EL id i)))))) a w G'/\G'.own id=G.own r/\ ∀ i,i ≠ r->i ≠ id->G'.own i=G.own i:=by
 obtain⟨hmr,afV⟩:=Bh hr;have akp:=FA hr;have ai7:Dh r=false:=by rw [<-afV];exact(h.deep er hmr).1
 have ai4:r ≠ id:=(by grind);have hpc:=h.B_ er hmr hpr;let G':AG:=⟨fun i=>if i=r then none else if i=id then G.p_ r else G.p_ i,fun i=>if i=r then none else if i=id then G.own r else G.own i,fun b=>F.av b\/ ∃ i,(if i=r then none else if i=id then G.p_ r else G.p_ i)=some b⟩;have t:abb F (fun i=>i==r||(i==id||EL id i)) (fun _=>false) G G' w w:=JW h G' rfl (by grind) (by grind) (fun i j b hib hjb=>by
  simp only [G']at hib hjb;split at hib
  ·cases hib
  ·rename_i q1;split at hjb
   ·cases hjb
   ·rename_i q2;split at hib<;>split at hjb
    ·simp_all
    ·exact absurd (h.inj _ _ b hjb hib) q2
    ·exact absurd (h.inj _ _ b hib hjb) q1
    ·exact h.inj _ _ b hib hjb)
 have gid:G'.p_ id=G.p_ r/\G'.own id=G.own r:=(by grind);have hno: ∀ cs:List C,Ap cs=true->KO (fun i=>BS i cs=true) G G':=fun cs hp i hi'=>absurd (show BS i cs=true from hi') (by rw [AQ i cs hp];simp);have hp: ∀ d∈st.so,d.id ≠ r->d.id ≠ id->(fun i=>i==r||(i==id||EL id i)) d.id=false/\(Fj d.id=true-> ∀ k,(fun i=>i==r||(i==id||EL id i)) (B9 k d.id)=false/\(fun _=>false:Ak->Bool) (B9 k d.id)=false):=by
  intro d hd' h1 h2;have hof:EL id d.id=false:=by
   cases hq:EL id d.id with
   | false=>rfl
   | true=>
     have:=JY hq;rw [(h.deep d hd').1]at this;cases this
  refine⟨by grind,fun _ k=>⟨?_,rfl⟩⟩;grind [DI,JX]
 refine⟨G',t.afP h _ ?_ ?_ ?_ ?_,gid.2,(by grind)⟩
 ·intro x hx;rcases mem_cons.1 hx with rfl | hx
  ·have hE:=h.store er hmr;unfold Be at hE ⊢;rw [IN]at hE;obtain⟨c1,v2,c2,c3⟩:=hE;refine⟨c1,v2,by grind,?_⟩;rcases c3 with ⟨p,c3,c4,c5⟩ | ⟨b',cap,cur,e1,e2,e3,e4,e5,e6,e7⟩
   ·grind
   ·exact .inr ⟨b',cap,cur,e1,by grind,e3,e4,e5,e6,An.mono t.keeps _ _ _ (hno _ hpc) (fun _=>rfl) e7⟩
  ·simp only [mem_map,mem_filter,and_eq_true,bne_iff_ne]at hx;obtain⟨y,⟨hy,h1,h2⟩,rfl⟩:=hx;exact t.ent h hy (hp y hy h1 h2).1 rfl
 ·intro x hx;rcases mem_cons.1 hx with rfl | hx
  ·refine⟨hmk,fun _=>⟨rfl,rfl,fun k E2 n2 abf cs2 hk=>?_⟩⟩;have:=all_eq_true.1 hn _ (mem_of_getElem? hk);cases this
  ·simp only [mem_map,mem_filter,and_eq_true,bne_iff_ne]at hx;obtain⟨y,⟨hy,h1,h2⟩,rfl⟩:=hx;exact t.deep h hy (hp y hy h1 h2).1 rfl (hp y hy h1 h2).2
 ·intro x hx;rcases mem_cons.1 hx with rfl | hx
  ·grind
  ·simp only [mem_map,mem_filter]at hx;obtain⟨y,⟨hy,_⟩,rfl⟩:=hx;exact QY (h.B_ y hy)
 ·rw [map_cons];refine nodup_cons.2 ⟨?_,?_⟩
  ·simp only [map_map,mem_map,mem_filter,Function.comp,Ax.E_,not_exists,not_and,and_eq_true,bne_iff_ne];grind
  ·simp only [map_map,Function.comp_def,Ax.E_];exact List.Sublist.nodup (by grind [filter_sublist]) h.nodup
theorem R.ang (h:R F st a w G) {r id:Ak} {er:Ax} (hr:st.look r=some er) {E:TypeId} {n len:Nat} (IN:er.row=some (E,n,len)) (hpr:er.pu=true) (hn:er.cs.all pi=true) (hd:Fj id=true) (hmk:Dh id=false):
 ∃ G',R F (st.e_ (fun i=>i==r||(i==id||EL id i)) (⟨id,some (E,n,len),er.cs,true⟩::((st.so.filter (fun d=>d.id != r&&d.id != id)).map (Ax.e_ (fun i=>i==r||(i==id||EL id i)))))) a w G'/\G'.own id=G.own r:=by
 obtain⟨G',q1,q2,_⟩:=h.ala hr IN hpr hn hd hmk;grind
theorem vW (h:R F st a w G) (id:Ak) (nb:Option Nat) (nv:Option Value) (ho:Ov w w') (hs:w.heap.size<=w'.heap.size) (abn: ∀ b,b<w.heap.size->(G.p_ id ≠ some b)->w'.heap[b]? =w.heap[b]?)
 (am7: ∀ b,b<F.w0.heap.size-> ¬F.old b->w'.heap[b]? =w.heap[b]?)
 (hn: ∀ b,nb=some b->(w.heap.size<=b\/(G.p_ id=some b/\Cg w w' b))/\b<w'.heap.size):abb F (· ==id) (· ==id) G (Cb F G id nb nv) w w' where
 agree:=(by grind [Cb])
 same:=fun i b hi hb=>abn b (h.lt i b hb) (fun q=>by have:=h.inj i id b hb q;grind)
 keeps:=h.keeps id nb nv hs abn (by grind)
 outer:=ho
 ext:=am7
 wr:=fun b=>Iff.rfl
 inj:=by
  intro i j b hi hj;simp only [Cb]at hi hj;split at hi<;>split at hj
  ·simp_all
  ·rename_i q1 q2;rcases (hn b hi).1 with q | q
   ·exact absurd (h.lt j b hj) (by omega)
   ·exact absurd (h.inj j id b hj q.1) q2
  ·rename_i q1 q2;rcases (hn b hj).1 with q | q
   ·exact absurd (h.lt i b hi) (by omega)
   ·exact absurd (h.inj i id b hi q.1) q1
  ·exact h.inj i j b hi hj
 lt:=by
  intro i b hi;simp only [Cb]at hi;split at hi
  ·grind
  ·exact Nat.lt_of_lt_of_le (h.lt i b hi) hs
 new:=by
  intro i b hi;simp only [Cb]at hi;split at hi
  ·rcases (hn b hi).1 with q | q
   ·grind
   ·exact h.new id b q.1
  ·exact h.new i b hi
theorem R.aiw (h:R F st a w G) {id:Ak} {e:Ax} (hl:st.Ti id=some e) {E n len m:Nat} (IN:e.row=some (E,n,len))
 {v v':Value} {xs us:List Value} {cs:List C} (hob:v.ownBlock=G.p_ id) (h1:Al w G e.cs xs) (h2:Al w G cs us) (hxc: ∀ b j u,G.p_ id=some b->xs[j]? =some u->w.cell? ⟨b,j,none⟩=some u)
 (hold:w.ownsRow 0 E n v len xs) (aaF:w'.ownsRow 0 E n v' (len+m) (xs++us)) (hg:w.grownBy w' v.ownBlock) (hfr:v'.ownBlock=v.ownBlock\/ ∀ b,v'.ownBlock=some b->w.heap.size<=b)
 (hp:Ap cs=true) (hn:cs.all pi=true):
 R F (st.e_ (· ==id) ((st.so.map (Ax.e_ (· ==id))).map (X_ id (some (E,n,len+m)) (e.cs++cs)))) a w' (Cb F G id v'.ownBlock (some v'))/\v'.oneCell'=true:=by
 obtain⟨hm,hid,hd,hmk,hpu,hpe,hi,_⟩:=h.abl hl;have abn: ∀ b,b<w.heap.size->G.p_ id ≠ some b->w'.heap[b]? =w.heap[b]? :=fun b hb hne=>hg.block b hb (by grind);have hnb: ∀ b,v'.ownBlock=some b->w.heap.size<=b\/(G.p_ id=some b/\Cg w w' b):=by
  intro b hb;rcases hfr with q | q
  ·refine .inr ⟨by grind,?_⟩;have hb2:v.ownBlock=some b:=by grind
   intro cur T fz hc;rcases aaF.2 with ⟨r,_⟩ | ⟨g,cap,adr,r,_,r2,_⟩
   ·rw [r]at hb;cases hb
   ·rw [r]at hb;simp only [Value.ownBlock,Option.some.injEq]at hb;subst hb;rcases hold.2 with ⟨r3,_⟩ | ⟨g3,aud,aua,r3,_,r4,_⟩
    all_goals grind [Value.ownBlock]
  grind
 have hlt: ∀ b,v'.ownBlock=some b->b<w'.heap.size:=fun b hb=>(aaF.lt b hb).2;have acK:v'.oneCell'=true:=by rcases aaF.2 with ⟨q,_⟩ | ⟨g,cap,cur,q,_⟩<;>rw [q]<;>rfl
 have t:=vW h id v'.ownBlock (some v') ⟨hg.os,hg.tape,hg.output⟩ hg.size abn (fun b hb apz=>by
  refine abn b (Nat.lt_of_lt_of_le hb h.x_) (fun q=>?_);rcases h.new id b q with q2 | q2
  all_goals grind) (by grind)
 have hpx:Ap (e.cs++cs)=true:=by rw [B0,hpe,hp];rfl
 have hl1:=h1.length;have hl2:=h2.length;have hln:=aaF.1;have hno: ∀ cs:List C,Ap cs=true->KO (fun i=>BS i cs=true) G (Cb F G id v'.ownBlock (some v')):=fun cs hp i hi'=>absurd (show BS i cs=true from hi') (by rw [AQ i cs hp];simp);have gid:(Cb F G id v'.ownBlock (some v')).p_ id=v'.ownBlock/\(Cb F G id v'.ownBlock (some v')).own id=some v':=by simp [Cb]
 have gj: ∀ j,(Cb F G id v'.ownBlock (some v')).p_ (B9 j id)=G.p_ (B9 j id)/\(Cb F G id v'.ownBlock (some v')).own (B9 j id)=G.own (B9 j id):=fun j=>t.agree _ (by grind [DI]);have afu:Be w' (Cb F G id v'.ownBlock (some v')) ⟨id,some (E,n,len+m),e.cs++cs,true⟩:=by
  unfold Be;refine⟨by grind,v',gid.2,?_⟩;rcases aaF.2 with ⟨q,h0⟩ | ⟨g,cap,cur,q,_,q2,q3,q4,q5,q6⟩
  ·exact .inl ⟨none,q,h0,by rw [gid.1,q];rfl⟩
  ·refine .inr ⟨g,cap,cur,q,by rw [gid.1,q];rfl,q2,q3,q4,q5,?_⟩;refine An.aaA (vs:=xs++us) (Al.mono t.keeps _ _ (hno _ hpx) (h1.append h2)) ?_;grind [BO,take_append_drop]
 have hin:Fz w' (Cb F G id v'.ownBlock (some v')) ⟨id,some (E,n,len+m),e.cs++cs,true⟩:=by
  intro j E2 n2 abf cs2 hj;simp only at hj;have hj2:e.cs[j]? =some (.isl E2 n2 abf cs2):=by
   by_cases q:j<e.cs.length
   ·grind
   ·rw [getElem?_append_right (by omega)]at hj;have:=all_eq_true.1 hn _ (mem_of_getElem? hj);cases this
  have hjl:j<e.cs.length:=(by grind);obtain⟨k1,k2,b2,v2,k3,k4,k5⟩:=h.inner hl hj2;have hxj:xs[j]? =some v2:=by grind
  refine⟨k1,CM t.keeps (hno _ k1) (gj j) (fun b hb=>abn b (h.lt _ b hb) (fun q=>DI hmk j (h.inj _ _ b q hb))) k2,?_⟩;rcases aaF.2 with ⟨q,h0⟩ | ⟨g,cap,cur,q,_,q2,q3,q4,q5,q6⟩
  ·grind
  ·refine⟨g,v2,by rw [gid.1,q];rfl,?_,by grind⟩;have hr:=BO q2 (us:=xs++us) (rest:=cur.toList.drop ((len+m)*n)) (by rw [<-q6,take_append_drop]);have:=hr j v2 (by grind);grind
 have aaq:=t.alQ h hl (fun _=>true) (by grind [DI]) rfl afu hin hpx;rw [K1]at aaq;exact⟨t.afP h _ aaq.1 aaq.2.1 aaq.2.2.1 aaq.2.2.2,acK⟩
def Ql:C->C
 | .isl _ _ len cs=> .sl len cs
 | c=>c
def pF (id i:Ak):Bool:=i==id||EL id i
def UN (id:Ak) (len:Nat) (cells:List C):C->C
 | .h_ i=>match i==id with
   | true=> .sl len cells
   | false=>C1 (pF id) (.h_ i)
 | c=>C1 (pF id) c
def Qm (id:Ak) (len:Nat) (cells:List C):V->V
 | .c x=> .c (UN id len cells x)
 | .agg cs=> .agg (cs.map (UN id len cells))
 | v=>Ca (pF id) v
def Ax.frD (id:Ak) (len:Nat) (cells:List C) (e:Ax):Ax:=match e with
 | ⟨i,r,cs,true⟩=>⟨i,r,cs,true⟩
 | ⟨i,r,cs,false⟩=>⟨i,r,cs.map (UN id len cells),false⟩
def St.frD (st:St) (id:Ak) (len:Nat) (cells:List C):St:={tm:=st.tm.map (Qm id len cells),so:=(st.so.filter (fun d=>d.id != id)).map (Ax.frD id len cells),gh:=st.gh.map (Qm id len cells),pre:=st.pre}
theorem YA {id:Ak} {len:Nat} {cells:List C} {c:C} (h: ∀ i,c= .h_ i->i ≠ id):UN id len cells c=C1 (pF id) c:=by
 cases c<;>simp only [UN]
 grind
theorem rI {id:Ak} {len:Nat} {cells:List C}:UN id len cells (.h_ id)= .sl len cells:=by simp only [UN,beq_self_eq_true]
theorem Zo {id:Ak} {len:Nat} {cells:List C} (hk:Cl G G' w w') (ha: ∀ i,pF id i=false->G'.p_ i=G.p_ i/\G'.own i=G.own i) (ho: ∀ v,G.own id=some v->Ah w' G' (.sl len cells) v) {c:C} {v:Value} (h:Ah w G c v):Ah w' G' (UN id len cells c) v:=by
 by_cases hc:c= .h_ id
 ·grind [rI,Ah]
 ·rw [YA (fun i q hi=>hc (by rw [q,hi]))];exact Ah.mono hk _ _ (fun i hi=>ha i (Zl hi)) (Zn h)
theorem lq {id:Ak} {len:Nat} {cells:List C} (hk:Cl G G' w w') (ha: ∀ i,pF id i=false->G'.p_ i=G.p_ i/\G'.own i=G.own i) (ho: ∀ v,G.own id=some v->Ah w' G' (.sl len cells) v): ∀ {cs:List C} {vs:List Value},Al w G cs vs->Al w' G' (cs.map (UN id len cells)) vs
 | [],[],_=>by simp [Al]
 | [],_::_,h=>by simp [Al]at h
 | _::_,[],h=>by simp [Al]at h
 | c::cs,v::vs,h=>by simp only [Al,map_cons]at h ⊢;exact⟨Zo hk ha ho h.1,lq hk ha ho h.2⟩
theorem lr {id:Ak} {len:Nat} {cells:List C} (hk:Cl G G' w w') (ha: ∀ i,pF id i=false->G'.p_ i=G.p_ i/\G'.own i=G.own i) (ho: ∀ v,G.own id=some v->Ah w' G' (.sl len cells) v) {x:V} {v:Value} (h:Ae w G x v):Ae w' G' (Qm id len cells x) v:=by
 cases x with
 | c x=>grind [Qm,Ae,Zo]
 | agg cs=>
   grind [Qm,Ae,lq]
 | tup vs=>exact Ae.mono hk _ _ (fun i hi=>ha i (JU hi)) (JV h)
 | g b x=>exact Ae.mono hk _ _ (fun i hi=>ha i (JU hi)) (JV h)
 | undef=>exact Ae.mono hk _ _ (fun i hi=>ha i (JU hi)) (JV h)
theorem fg {id:Ak} {len:Nat} {cells:List C} (hk:Cl G G' w w') (ha: ∀ i,pF id i=false->G'.p_ i=G.p_ i/\G'.own i=G.own i) (ho: ∀ v,G.own id=some v->Ah w' G' (.sl len cells) v): ∀ {xs:List V} {vs:List Value},Aq w G xs vs->Aq w' G' (xs.map (Qm id len cells)) vs
 | [],vs,h=>by simpa [Aq] using h
 | x::xs,vs,h=>by simp only [Aq,map_cons]at h ⊢;obtain⟨v,r,e,h1,h2⟩:=h;exact⟨v,r,e,lr hk ha ho h1,fg hk ha ho h2⟩
theorem QZ {id:Ak} {len:Nat} {cells:List C} (hk:Cl G G' w w') (ha: ∀ i,pF id i=false->G'.p_ i=G.p_ i/\G'.own i=G.own i) (ho: ∀ v,G.own id=some v->Ah w' G' (.sl len cells) v): ∀ {cs:List C} {b o:Nat},(∀ o,w'.cell? ⟨b,o,none⟩=w.cell? ⟨b,o,none⟩)->An w G cs b o->An w' G' (cs.map (UN id len cells)) b o
 | [],_,_,_,_=>by grind [An]
 | c::cs,b,o,hc,h=>by simp only [An,map_cons]at h ⊢;obtain⟨⟨v,h1,h2⟩,h3⟩:=h;exact⟨⟨v,by rw [hc];exact h1,Zo hk ha ho h2⟩,QZ hk ha ho hc h3⟩
theorem zG {f:C->C}: ∀ {cs:List C} {b o:Nat},(∀ k c,cs[k]? =some c-> ∃ v,w.cell? ⟨b,o+k,none⟩=some v/\Ah w G (f c) v)->An w G (cs.map f) b o
 | [],_,_,_=>by grind [An]
 | c::cs,b,o,h=>by simp only [An,map_cons];refine⟨by simpa using h 0 c (by simp),zG (fun k c' hc=>?_)⟩;have:=h (k+1) c' (by simpa using hc);rw [show o+1+k=o+(k+1) by omega];exact this
theorem R.aoL (h:R F st a w G) {id:Ak} {e:Ax} (hl:st.Ti id=some e) {E:TypeId} {n len:Nat} (IN:e.row=some (E,n,len)) {cells:List C} (hcs:e.cs.map Ql=cells): ∃ G',R F (st.frD id len cells) a w G':=by
 subst hcs;obtain⟨hm,hid,hd,hmk,hpu,hpe,hi,_⟩:=h.abl hl;let G':AG:=⟨fun i=>if pF id i=true then none else G.p_ i,fun i=>if pF id i=true then none else G.own i,fun b=>F.av b\/ ∃ i,(if pF id i=true then none else G.p_ i)=some b⟩;have hag: ∀ i,pF id i=false->G'.p_ i=G.p_ i/\G'.own i=G.own i:=(by grind);have t:abb F (pF id) (fun _=>false) G G' w w:=JW h G' rfl hag (by grind) (fun i j b hib hjb=>by
  simp only [G']at hib hjb;split at hib
  ·cases hib
  ·split at hjb
   ·cases hjb
   ·exact h.inj _ _ b hib hjb)
 have hno: ∀ cs:List C,Ap cs=true->KO (fun i=>BS i cs=true) G G':=fun cs hp i hi'=>absurd (show BS i cs=true from hi') (by rw [AQ i cs hp];simp);have hnw: ∀ i b,pF id i=true->G.p_ i=some b-> ¬G'.wr b:=by
  intro i b hp hb hw;simp only [G']at hw;rcases hw with q | ⟨j,q⟩
  ·rcases h.new i b hb with q2 | q2
   ·have:=h.aaS b q;omega
   ·exact h.aaj b q2 q
  ·split at q
   ·cases q
   ·rename_i hj;exact hj (by rw [h.inj j i b q hb];exact hp)
 have axf:pF id id=true:=by simp [pF]
 have axd: ∀ k,pF id (B9 k id)=true:=fun k=>by simp [pF,JX]
 have ab9: ∀ (b:Nat),G.p_ id=some b-> ∀ k c,e.cs[k]? =some c-> ∀ v,w.cell? ⟨b,k,none⟩=some v->Ah w G c v->(Ql c).pure =true/\Ah w G' (Ql c) v:=by
  intro b hb k c hk v hv hr;have hpc:c.pure=true:=by grind [Cu]
  by_cases hc: ∃ E n l cs,c= .isl E n l cs
  ·obtain⟨E2,n2,l2,cs2,rfl⟩:=hc;obtain⟨k1,k2,b2,v2,k3,k4,k5⟩:=h.inner hl hk;rw [hb]at k3;injection k3 with k3;subst k3;rw [hv]at k4;injection k4 with k4;subst k4;refine⟨rfl,?_⟩;simp only [Ql,Ah];unfold Be at k2;obtain⟨c1,v2,c2,c3⟩:=k2;rw [show (⟨B9 k id,some (E2,n2,l2),cs2,true⟩:Ax).id =B9 k id from rfl,k5]at c2;injection c2 with c2;subst c2;refine⟨k1,?_⟩;rcases c3 with ⟨p,rfl,rfl,_⟩ | ⟨b',cap,cur,rfl,e2,e3,e4,e5,e6,e7⟩
   ·grind
   ·refine⟨_,cap,rfl,e4,e5,fun h0=>?_, .inr ⟨b',0,rfl,hnw _ b' (axd k) e2,h.lt _ b' e2,An.mono t.keeps _ _ _ (hno _ k1) (fun _=>rfl) e7⟩⟩;simp_all
  ·have:Ql c=c:=by cases c<;>first | rfl | grind
   rw [this];exact⟨hpc,Ah.mono t.keeps _ _ (fun i hi'=>absurd (show c.s_ i=true from hi') (by rw [H7 i c hpc];simp)) hr⟩
 have ho: ∀ v,G.own id=some v->Ah w G' (.sl len (e.cs.map Ql)) v:=by
  intro v hv;have hE:=h.store e hm;unfold Be at hE;rw [IN]at hE;obtain⟨c1,v1,c2,c3⟩:=hE;rw [hid,hv]at c2;injection c2 with c2;subst c2;rcases c3 with ⟨p,rfl,rfl,c5⟩ | ⟨b,cap,cur,rfl,e2,e3,e4,e5,e6,e7⟩
  ·have:e.cs=[]:=by grind
   rw [this];simp only [Ah];grind
  ·rw [hid]at e2;obtain⟨vs,r1,r2⟩:=e7.list;have hl1:=r1.length;have hat: ∀ k c,e.cs[k]? =some c-> ∃ v,w.cell? ⟨b,k,none⟩=some v/\Ah w G c v:=by intro k c hk;obtain⟨u,hu,hr⟩:=r1.get k c hk;exact⟨u,by simpa using r2 k u hu,hr⟩
   have atu:Ap (e.cs.map Ql)=true:=by rw [Cu,all_eq_true];intro c hc;obtain⟨d,hd,rfl⟩:=mem_map.1 hc;obtain⟨k,hk,rfl⟩:=mem_iff_getElem.1 hd;obtain⟨u,q1,q2⟩:=hat k _ (List.getElem?_eq_getElem hk);grind
   simp only [Ah];refine⟨atu,_,cap,rfl,e4,e5,fun h0=>?_, .inr ⟨b,0,rfl,hnw id b axf e2,h.lt id b e2,zG (fun k c hk=>?_)⟩⟩
   ·simp_all
   grind
 have axC: ∀ d:Ax,(d.frD id len (e.cs.map Ql)).id =d.id:=fun d=>by obtain⟨i,r,cs,_ | _⟩:=d<;>rfl
 have hpn: ∀ d∈st.so,d.id ≠ id->pF id d.id=false/\(Fj d.id=true-> ∀ k,pF id (B9 k d.id)=false):=by
  intro d hd' h2;refine⟨?_,fun _ k=>?_⟩
  ·unfold pF;rw [show (d.id==id)=false by simpa using h2,Bool.false_or];cases hq:EL id d.id with
   | false=>rfl
   | true=>
     have:=JY hq;rw [(h.deep d hd').1]at this;cases this
  ·unfold pF;rw [show (B9 k d.id==id)=false by simpa using (DI hmk k).symm,Bool.false_or,JX];grind
 refine⟨G',t.rel h _ (by simp [St.frD]) (fun i=>?_) ?_ ?_ ?_ ?_ ?_⟩
 ·simp only [St.frD];rw [FS (by simp [Qm,Ca,V.i_])];exact lr t.keeps hag ho (h.z_ i)
 ·exact fg t.keeps hag ho h.I_
 ·intro x hx;simp only [St.frD,mem_map,mem_filter,bne_iff_ne]at hx;obtain⟨d,⟨hd',hne⟩,rfl⟩:=hx;have hE:=h.store d hd';have hgd:=hag d.id (hpn d hd' hne).1;have hpd:=h.B_ d hd';obtain⟨i,r,ds,pu⟩:=d;cases pu with
  | true=>exact CM t.keeps (hno _ (hpd rfl)) hgd (fun _ _=>rfl) hE
  | false=>
    unfold Be at hE ⊢;cases r with
    | none=>
      obtain⟨b,h1,h2⟩:=hE;refine⟨b,by grind,?_⟩;rcases h2 with ⟨kv,es,h2,h3⟩ | ⟨T,cur,h2,h3,h4⟩
      ·dsimp only [Ax.frD]at h2 ⊢;rw [h2];exact .inl ⟨kv,es,by simp [UN,C1,C.i_],h3⟩
      ·exact .inr ⟨T,cur,h2,by simpa [Ax.frD] using h3,QZ t.keeps hag ho (fun _=>rfl) h4⟩
    | some q=>
      obtain⟨E',n',abW⟩:=q;obtain⟨hl',v,h1,h2⟩:=hE;refine⟨by grind [Ax.frD],v,by grind,?_⟩;rcases h2 with ⟨p,e1,e2,e3⟩ | ⟨b,cap,cur,e1,e2,e3,e4,e5,e6,e7⟩
      ·grind
      ·exact .inr ⟨b,cap,cur,e1,by grind,e3,e4,e5,e6,QZ t.keeps hag ho (fun _=>rfl) e7⟩
 ·intro x hx;simp only [St.frD,mem_map,mem_filter,bne_iff_ne]at hx;obtain⟨d,⟨hd',hne⟩,rfl⟩:=hx;have hD:=h.deep d hd';have hD2:BA w G (d.frD id len (e.cs.map Ql)):=by
   obtain⟨i,r,cs,pu⟩:=d;cases pu with
   | true=>exact hD
   | false=>exact⟨hD.1,fun hq=>absurd (hD.2 hq).1 (by simp)⟩
  refine BA.mono t.keeps (by grind) (fun hq k=>?_) (fun _ _=>rfl) (fun _ _ _ _=>rfl) hD2;grind
 ·intro x hx;simp only [St.frD,mem_map,mem_filter]at hx;obtain⟨d,⟨hd',_⟩,rfl⟩:=hx;have:=h.B_ d hd';obtain⟨i,r,cs,pu⟩:=d;cases pu with
  | true=>exact this
  | false=>intro hq;cases hq
 ·simp only [St.frD,map_map,Function.comp_def,axC];exact List.Sublist.nodup (by grind [filter_sublist]) h.nodup
end
end Go.PL
namespace Go.PL
open Go Go.RowKit
inductive DS where
 | ld (E:TypeId) (n len:Nat) (cs:List C)
 | ix (E:TypeId) (n len:Nat) (cs:List C)
 | rd (E:TypeId) (n len:Nat) (cs:List C) (u:V)
 | ln (E:TypeId) (n len:Nat) (cs:List C)
 | st (E:TypeId) (n len ln:Nat) (cs cells:List C)
 | ps (cells:List C)
 | ab (cells:List C)
 | lx (E:TypeId) (n len:Nat) (cs:List C)
 | nw (t:Option (Nat×List C))
 | bs
 | aa (len:Nat) (cells:List C)
section
variable {F:Fr} {st:St} {a:Act} {w:World} {G:AG}
theorem R.aaa (h:R F st a w G) {e:Ax} {id:Ak} (he:e∈st.so) (hid:e.id=id) (hd:Fj id=true):st.Ti id=some e:=by
 unfold St.Ti;cases hf:st.so.find? (fun e=>e.id==id&&Fj e.id)with
 | none=>
   grind
 | some x=>
   have h1:=List.mem_of_find?_eq_some hf;have h2:=find?_some hf;simp only [and_eq_true,beq_iff_eq]at h2;rw [h.uniq h1 he (h2.1.trans hid.symm)]
theorem R.adk (h:R F st a w G) {e:Ax} {id:Ak} (he:e∈st.so) (hid:e.id=id) (hd:Fj id=false) (hr:e.row.isSome=true):st.look id=some e:=by
 have hM:e.isM=false:=by grind [Ax.isM]
 unfold St.look;cases hf:st.so.find? (fun e=>e.id==id&& !(e.isM||Fj e.id))with
 | none=>
   grind
 | some x=>
   have h1:=List.mem_of_find?_eq_some hf;have h2:=find?_some hf;simp only [and_eq_true,beq_iff_eq]at h2;rw [h.uniq h1 he (h2.1.trans hid.symm)]
theorem R.aeQ (h:R F st a w G) {d:Nat} {x:V} (hx:Ae w G x (a.tmps.getD d Go.undef)):R F (st.put (some d) x) a w G:={
 dfr:=h.dfr
 size:=by simp [St.put,h.size]
 z_:=fun i=>by
  simp only [St.put,getD_eq_getElem?_getD,getElem?_set];by_cases hi:d=i
  ·subst hi;by_cases hl:d<st.tm.length
   ·grind
   ·rw [if_pos rfl,if_neg hl,Option.getD_none];simp only [Ae]
  ·rw [if_neg hi];have:=h.z_ i;grind
 I_:=h.I_,store:=h.store,deep:=h.deep,B_:=h.B_,nodup:=h.nodup
 inj:=h.inj,lt:=h.lt,new:=h.new,wr:=h.wr,aaS:=h.aaS,inv:=h.inv,aaj:=h.aaj,os:=h.os,tape:=h.tape,output:=h.output,x_:=h.x_,ext:=h.ext}
end
section
variable {P:Program} {I:World->Prop} {o:Oper} {st a_:St} {K:St->Prop} {F:Fr} {a:Act} {w:World} {G:AG}
theorem Sk (h:R F st a w G) {x:Operand} (hl:A8 (AZ st true x).1):Ae w G (AZ st true x).2 (a.eval x):=by obtain⟨h1,h2⟩:=PQ hl;rw [<-h2];exact h.arg rfl h1
def dLd (P:Program) (st:St) (o:Oper) (E n len:Nat) (cs:List C):Option (List Prop×St):=match o.op with
 | .load T x=>match (AZ st true x).2,KP P T with
   | .c (.ptr id k),some (ag,n')=>match !ag&&Nat.beq n' 1,st.Ti id with
     | true,some e=>some ((AZ st true x).1++[e.cs[k]? =some (.isl E n len cs)],st.put o.dst (.c (.h_ (1000007::k::id))))
     | _,_=>none
   | _,_=>none
 | _=>none
theorem zH {E n len:Nat} {cs:List C} {l:List Prop} (h:dLd P st o E n len cs=some (l,a_)) (hl:A8 l) (hK:K a_):DW P I o st K:=by
 unfold dLd at h;split at h
 ·rename_i T x ho;split at h
  ·rename_i id k ag n' hx ht;split at h
   ·rename_i e hb he;simp only [Option.some.injEq,injEq]at h;obtain⟨rfl,rfl⟩:=h;obtain⟨q1,q2,_⟩:=Am.1 hl;intro F a w G Q hI hR;have hxv:=Sk hR q1;rw [hx]at hxv;simp only [Ae,Ah]at hxv;obtain⟨b,hb1,hv⟩:=hxv;obtain⟨_,hE,b2,v,k3,k4,k5⟩:=hR.inner he q2;rw [hb1]at k3;injection k3 with k3;subst k3;simp only [and_eq_true,not_eq_true']at hb;obtain⟨d,i,hu,hd,_⟩:=C9 ht;have acK:v.oneCell'=true:=by unfold Be at hE;obtain⟨_,v2,c2,c3⟩:=hE;rw [show (⟨B9 k id,some (E,n,len),cs,true⟩:Ax).id =B9 k id from rfl,k5]at c2;injection c2 with c2;subst c2;rcases c3 with ⟨p,rfl,_⟩ | ⟨b',cap,cur,rfl,_⟩<;>rfl
    have A_:(execOp a.eval o).run P w= .ok (.value v) w:=by simp_all [execOp,DT]
    exact AN A_ ⟨_,G,hK,hR.put (by simp only [Ae,Ah];exact⟨k5,acK⟩)⟩
   ·cases h
  ·cases h
 ·cases h
def dIx (P:Program) (st:St) (o:Oper) (E n len:Nat) (cs:List C):Option (List Prop×St):=match o.op with
 | .indexAddr t x y=>match (AZ st true x).2,(AZ st true y).2,DG P t with
   | .c (.h_ (m::k::id)), .c (.int _ i),some (_,n')=>match Nat.beq m 1000007&&Nat.beq n' n,st.Ti id with
     | true,some e=>some (((AZ st true x).1++(AZ st true y).1)++[e.cs[k]? =some (.isl E n len cs),0<=i/\i<(len:Int)],st.put o.dst (.c (.ptr (m::k::id) (i.toNat*n'))))
     | _,_=>none
   | _,_,_=>none
 | _=>none
theorem zI {E n len:Nat} {cs:List C} {l:List Prop} (h:dIx P st o E n len cs=some (l,a_)) (hl:A8 l) (hK:K a_):DW P I o st K:=by
 unfold dIx at h;split at h
 ·rename_i t x y ho;split at h
  ·rename_i m k id ki i E' n' hx hy ht;split at h
   ·rename_i e hb he;simp only [Option.some.injEq,injEq]at h;obtain⟨rfl,rfl⟩:=h;obtain⟨q1,q2,q3,_⟩:=Am.1 hl;obtain⟨q1,q1'⟩:=Am.1 q1;intro F a w G Q hI hR;have hxv:=Sk hR q1;have hyv:=Sk hR q1';rw [hx]at hxv;rw [hy]at hyv;simp only [Ae,Ah]at hxv hyv;simp only [and_eq_true]at hb;have hm:=eq_of_beq_eq_true hb.1;subst hm;obtain⟨_,hE,_⟩:=hR.inner he q2;unfold Be at hE;obtain⟨_,v2,c2,c3⟩:=hE;rw [show (⟨B9 k id,some (E,n,len),cs,true⟩:Ax).id =B9 k id from rfl,show B9 k id=1000007::k::id from rfl,hxv.1]at c2;injection c2 with c2;rcases c3 with ⟨p,_,c4,_⟩ | ⟨b',cap,cur,c3,e2,_⟩
    ·omega
    ·have A_:(execOp a.eval o).run P w= .ok (.value (.pointer (some ⟨b',0+i.toNat*n',none⟩))) w:=by simp [execOp,ho,hyv,c2,c3,Ed ht b' 0 len cap ki i q3.1 q3.2 w]
     exact AN A_ ⟨_,G,hK,hR.put (by simp only [Ae,Ah];exact⟨b',e2,by grind⟩)⟩
   ·cases h
  ·cases h
 ·cases h
def dRd (P:Program) (st:St) (o:Oper) (E n len:Nat) (cs:List C) (u:V):Option (List Prop×St):=match o.op with
 | .load T x=>match (AZ st true x).2,KP P T with
   | .c (.ptr (m::k::id) off),some (ag,n')=>match Nat.beq m 1000007&&(ag||Nat.blt 0 n'),st.Ti id with
     | true,some e=>some ((AZ st true x).1++[e.cs[k]? =some (.isl E n len cs),off+n'<=cs.length/\toV ag off n' cs=u],st.put o.dst u)
     | _,_=>none
   | _,_=>none
 | _=>none
theorem zJ {E n len:Nat} {cs:List C} {u:V} {l:List Prop} (h:dRd P st o E n len cs u=some (l,a_)) (hl:A8 l) (hK:K a_):DW P I o st K:=by
 unfold dRd at h;split at h
 ·rename_i T x ho;split at h
  ·rename_i m k id off ag n' hx ht;split at h
   ·rename_i e hb he;simp only [Option.some.injEq,injEq]at h;obtain⟨rfl,rfl⟩:=h;obtain⟨q1,q2,q3,_⟩:=Am.1 hl;intro F a w G Q hI hR;have hxv:=Sk hR q1;rw [hx]at hxv;simp only [Ae,Ah]at hxv;obtain⟨b,hb1,hv⟩:=hxv;simp only [and_eq_true,or_eq_true,Nat.blt_eq]at hb;have hm:=eq_of_beq_eq_true hb.1;subst hm;obtain⟨_,hE,_⟩:=hR.inner he q2;obtain⟨cur,T',_,_,IN⟩:=hE.row (fun q=>by cases q) hb1;obtain⟨v,r1,r2⟩:=YT (P:=P) IN ht q3.1 hb.2;have A_:(execOp a.eval o).run P w= .ok (.value v) w:=by simp_all [CX.refl,execOp]
    exact AN A_ ⟨_,G,hK,hR.put (by grind)⟩
   ·cases h
  ·cases h
 ·cases h
def dLn (P:Program) (st:St) (o:Oper) (E n len:Nat) (cs:List C):Option (List Prop×St):=match o.op with
 | .call c=>match c.callee,c.args.toList,c.argTypes.toList with
   | .builtin .len,[x],[t]=>match (AZ st true x).2 with
     | .c (.h_ (m::k::id))=>match Nat.beq m 1000007&&EI P t,st.Ti id with
       | true,some e=>some ((AZ st true x).1++[e.cs[k]? =some (.isl E n len cs)],st.put o.dst (.c (.int .i64 len)))
       | _,_=>none
     | _=>none
   | _,_,_=>none
 | _=>none
theorem zK {E n len:Nat} {cs:List C} {l:List Prop} (h:dLn P st o E n len cs=some (l,a_)) (hl:A8 l) (hK:K a_):DW P I o st K:=by
 unfold dLn at h;split at h
 ·rename_i c ho;split at h
  ·rename_i x t h1 h2 h3;split at h
   ·rename_i m k id hx;split at h
    ·rename_i e hb he;simp only [Option.some.injEq,injEq]at h;obtain⟨rfl,rfl⟩:=h;obtain⟨q1,q2,_⟩:=Am.1 hl;intro F a w G Q hI hR;have hxv:=Sk hR q1;rw [hx]at hxv;simp only [Ae,Ah]at hxv;simp only [and_eq_true]at hb;have hm:=eq_of_beq_eq_true hb.1;subst hm;obtain⟨el,hel⟩:=EJ hb.2;obtain⟨_,hE,_⟩:=hR.inner he q2;unfold Be at hE;obtain⟨_,v2,c2,c3⟩:=hE;rw [show (⟨B9 k id,some (E,n,len),cs,true⟩:Ax).id =B9 k id from rfl,show B9 k id=1000007::k::id from rfl,hxv.1]at c2;injection c2 with c2;have hsl: ∃ p cap,a.eval x= .slice p len cap:=by grind
     obtain⟨p,cap,hsl⟩:=hsl;have ea:c.args= #[x]:=by grind
     have et:c.argTypes= #[t]:=by grind
     have A_:(execOp a.eval o).run P w= .ok (.value (.int .i64 len)) w:=by simp [execOp,ho,resolve,h1,ea,et,invoke,builtin,Builtin.len_,Sem.run_bind,run_underlying hel,goInt,hsl]
     exact AN A_ ⟨_,G,hK,hR.put (by simp only [Ae,Ah])⟩
    ·cases h
   ·cases h
  ·cases h
 ·cases h
theorem Eg {T:TypeId} {ag:Bool} {n b off:Nat} {T':TypeId} {cur:Array Value} {v:Value} (ht:KP P T=some (ag,n)) (hh:w.heap[b]? =some (.cells cur T' (0,0))) (hl:v.cells.toList.length=n) (alL:off+v.cells.toList.length<=cur.size) (acK: ∀ u∈v.cells.toList,u.oneCell'=true):
 (Instr.storeAt T (.pointer (some ⟨b,off,none⟩)) v).run P w= .ok () (w.setRow b (cur.toList.take off++v.cells.toList++cur.toList.drop (off+v.cells.toList.length)).toArray):=by
 obtain⟨d,i,hu,hd,hi,hsz⟩:=C9 ht;have hst:=run_storeCells_at P b off T' v.cells.toList 0 cur w hh (by simpa using alL) acK;simp only [add_zero]at hst;simp_all [Instr.storeAt,Instr.sureAddr,storeVar,sizeOf,typeInfo]
theorem FG {w':World} {K:Act->World->Prop} {Q:Exit->Act->World->Prop} (hr:(execOp a.eval o).run P w= .ok .skip w') (h:K (a.put o.dst Go.undef) w'):o.wp P a w K Q:=by grind [Oper.wp,Oper.upon]
def lu (len:Nat):Option (TypeId×Nat×Nat)->Option (TypeId×Nat×Nat)
 | some (E,n,_)=>some (E,n,len)
 | none=>none
def dSt (P:Program) (st:St) (o:Oper) (E n len ln:Nat) (cs cells:List C):Option (List Prop×St):=match o.op with
 | .store T x y=>match o.dst,(AZ st true x).2,(AZ st true y).2.cells,KP P T with
   | none, .c (.ptr (m::k::id) off),some xs,some (_,n')=>match Nat.beq m 1000007&&(Nat.beq xs.length n'&&Ap xs),st.Ti id with
     | true,some e=>some (((AZ st true x).1++(AZ st true y).1)++[e.cs[k]? =some (.isl E n len cs),off+n'<=cs.length/\e.cs.set k (.isl E n len (cs.take off++xs++cs.drop (off+xs.length)))=cells,lu ln e.row=e.row],st.aew id (lu ln e.row) cells)
     | _,_=>none
   | _,_,_,_=>none
 | _=>none
theorem zL {E n len ln:Nat} {cs cells:List C} {l:List Prop} (h:dSt P st o E n len ln cs cells=some (l,a_)) (hl:A8 l) (hK:K a_):DW P I o st K:=by
 unfold dSt at h;split at h
 ·rename_i T x y ho;split at h
  ·rename_i m k id off xs ag n' air hx hy ht;split at h
   ·rename_i e hb he;simp only [Option.some.injEq,injEq]at h;obtain⟨rfl,rfl⟩:=h;obtain⟨q1,q2,q3,q4,_⟩:=Am.1 hl;rw [q4]at hK;obtain⟨q1,q1'⟩:=Am.1 q1;intro F a w G Q hI hR;have hxv:=Sk hR q1;have hyv:=Sk hR q1';rw [hx]at hxv;simp only [Ae,Ah]at hxv;obtain⟨b,hb1,hv⟩:=hxv;simp only [and_eq_true]at hb;have hm:=eq_of_beq_eq_true hb.1;have hn:=eq_of_beq_eq_true hb.2.1;subst hm;have hc:=JM hyv hy;have hlc:=hc.length;obtain⟨cur,T',r1,r2,r3⟩:=hR.af8 he q2 (show G.p_ (B9 k id)=some b from hb1) (off:=off) hc (by omega) hb.2.2;rw [q3.2]at r3;have hs:=Eg (P:=P) ht r1 (by omega) r2 (Al.one hc);generalize w.setRow b _=w1 at hs r3;have A_:(execOp a.eval o).run P w= .ok .skip w1:=by simp_all [execOp]
    exact FG A_ (by rw [air];exact⟨_,G,hK,r3⟩)
   ·cases h
  ·cases h
 ·cases h
theorem pj {x:V} {v:Value} (h:Ae w G x v):Ae w G x.ae5 v:=by cases x<;>grind [V.ae5,Ae,Jp,UH]
def dPs (P:Program) (st:St) (o:Oper) (cells:List C):Option (List Prop×St):=match o.op with
 | .store T x y=>match o.dst,(AZ st true x).2,(AZ st true y).2.ae5.cells,KP P T with
   | none, .c (.ptr id off),some xs,some (_,n')=>match (Nat.beq xs.length n'&&Ap xs)&&xs.all pi,st.Ti id with
     | true,some e=>some (((AZ st true x).1++(AZ st true y).1)++[off+n'<=e.cs.length/\e.cs.take off++xs++e.cs.drop (off+xs.length)=cells],st.aew id e.row cells)
     | _,_=>none
   | _,_,_,_=>none
 | _=>none
theorem zM {cells:List C} {l:List Prop} (h:dPs P st o cells=some (l,a_)) (hl:A8 l) (hK:K a_):DW P I o st K:=by
 unfold dPs at h;split at h
 ·rename_i T x y ho;split at h
  ·rename_i id off xs ag n' air hx hy ht;split at h
   ·rename_i e hb he;simp only [Option.some.injEq,injEq]at h;obtain⟨rfl,rfl⟩:=h;obtain⟨q1,q2,_⟩:=Am.1 hl;obtain⟨q1,q1'⟩:=Am.1 q1;intro F a w G Q hI hR;have hxv:=Sk hR q1;have hyv:=pj (Sk hR q1');rw [hx]at hxv;simp only [Ae,Ah]at hxv;obtain⟨b,hb1,hv⟩:=hxv;simp only [and_eq_true]at hb;have hn:=eq_of_beq_eq_true hb.1.1;have hc:=JM hyv hy;have hlc:=hc.length;obtain⟨cur,T',r1,r2,r3⟩:=hR.acG he hb1 (off:=off) hc (by omega) hb.1.2 hb.2;rw [q2.2]at r3;have hs:=Eg (P:=P) ht r1 (by omega) r2 (Al.one hc);generalize w.setRow b _=w1 at hs r3;have A_:(execOp a.eval o).run P w= .ok .skip w1:=by simp_all [execOp]
    exact FG A_ (by rw [air];exact⟨_,G,hK,r3⟩)
   ·cases h
  ·cases h
 ·cases h
theorem tR {id:Ak} {row:Option (TypeId×Nat×Nat)} {c1 c2:List C} {p:Ak->Bool} (x:Ax):X_ id row c2 ((X_ id row c1 x).e_ p)=X_ id row c2 (x.e_ p):=by
 by_cases h:x.id=id
 all_goals grind [Gv,Ax.E_,Ax.afr,Gu]
def dAb (P:Program) (st:St) (o:Oper) (cells:List C):Option (List Prop×St):=match o.op with
 | .store T x y=>match o.dst,(AZ st true x).2,(AZ st true y).2,KP P T with
   | none, .c (.ptr id k), .c (.h_ r),some (ag,n')=>match !ag&&Nat.beq n' 1,st.Ti id,st.look r with
     | true,some e,some er=>match er.row,er.pu with
       | some (E,n,len),true=>some (((AZ st true x).1++(AZ st true y).1)++[k<e.cs.length/\e.cs.set k (.isl E n len er.cs)=cells],st.e_ (pD r id) (((st.so.filter (fun d=>d.id != r)).map (Ax.e_ (pD r id))).map (X_ id e.row cells)))
       | _,_=>none
     | _,_,_=>none
   | _,_,_,_=>none
 | _=>none
theorem zN {cells:List C} {l:List Prop} (h:dAb P st o cells=some (l,a_)) (hl:A8 l) (hK:K a_):DW P I o st K:=by
 unfold dAb at h;split at h
 ·rename_i T x y ho;split at h
  ·rename_i id k r ag n' air hx hy ht;split at h
   ·rename_i e er hb he her;split at h
    ·rename_i E n len IN hpu;simp only [Option.some.injEq,injEq]at h;obtain⟨rfl,rfl⟩:=h;obtain⟨q1,q2,_⟩:=Am.1 hl;obtain⟨q1,q1'⟩:=Am.1 q1;intro F a w G Q hI hR;have hxv:=Sk hR q1;have hyv:=Sk hR q1';rw [hx]at hxv;rw [hy]at hyv;simp only [Ae,Ah]at hxv hyv;obtain⟨b,hb1,hv⟩:=hxv;simp only [and_eq_true,not_eq_true']at hb;have hn:=eq_of_beq_eq_true hb.2;have hcl:(a.eval y).cells.toList =[a.eval y]:=by have:=hyv.2;cases hq:a.eval y<;>rw [hq]at this<;>first | rfl | cases this
     have hc:Al w G [C.any] (a.eval y).cells.toList :=by simp_all [Al,Ah]
     obtain⟨cur,T',r1,r2,r3⟩:=hR.acG he hb1 (off:=k) hc (by simp;omega) rfl rfl;have hs:=Eg (P:=P) ht r1 (by rw [hcl];simp;omega) r2 (Al.one hc);have ab9:(w.setRow b (cur.toList.take k++(a.eval y).cells.toList ++cur.toList.drop (k+(a.eval y).cells.toList.length)).toArray).cell? ⟨b,k,none⟩=some (a.eval y):=by have:=setRow_heap w b cur (cur.toList.take k++(a.eval y).cells.toList ++cur.toList.drop (k+(a.eval y).cells.toList.length)).toArray T' (0,0) r1;grind [World.cell?,List.length_take]
     generalize w.setRow b _=w1 at hs r3 ab9;have A_:(execOp a.eval o).run P w= .ok .skip w1:=by simp_all [execOp]
     obtain⟨hm,hid,hd⟩:=PS he;obtain⟨hmr,afV⟩:=Bh her;have akp:=FA her;have ai4:r ≠ id:=(by grind);have hD:(st.aew id e.row (e.cs.take k++[C.any]++e.cs.drop (k+[C.any].length))).Ti id=some ⟨id,e.row,e.cs.take k++[C.any]++e.cs.drop (k+[C.any].length),e.pu⟩:=by refine r3.aaa ?_ rfl hd;grind [St.aew,Gv]
     have hL:(st.aew id e.row (e.cs.take k++[C.any]++e.cs.drop (k+[C.any].length))).look r=some er:=by refine r3.adk ?_ afV akp (by grind);grind [St.aew,Gu]
     have hk':k<(⟨id,e.row,e.cs.take k++[C.any]++e.cs.drop (k+[C.any].length),e.pu⟩:Ax).cs.length :=by simp;omega
     obtain⟨G',g1,_⟩:=r3.anq hD hL IN hpu hb1 ab9 hyv.1 hk'
     suffices aqV:R F (st.e_ (pD r id) (((st.so.filter (fun d=>d.id != r)).map (Ax.e_ (pD r id))).map (X_ id e.row cells))) a w1 G' from FG A_ (by rw [air];exact⟨_,G',hK,aqV⟩)
     have e1:(e.cs.take k++[C.any]++e.cs.drop (k+[C.any].length)).set k (.isl E n len er.cs)=cells:=by
      rw [<-q2.2];apply List.ext_getElem?;intro j;simp only [getElem?_set];by_cases hj:k=j
      ·grind
      ·rw [if_neg hj,if_neg hj,append_assoc];have htl:(e.cs.take k).length =k:=by grind
       by_cases hjk:j<k
       ·grind
       ·rw [getElem?_append_right (by omega),htl,getElem?_append_right (by simp;omega),List.getElem?_drop];grind
     have e2:(((st.aew id e.row (e.cs.take k++[C.any]++e.cs.drop (k+[C.any].length))).so.filter (fun d=>d.id != r)).map (Ax.e_ (pD r id))).map (X_ id e.row cells)=((st.so.filter (fun d=>d.id != r)).map (Ax.e_ (pD r id))).map (X_ id e.row cells):=by
      simp only [St.aew];rw [List.filter_map];simp only [map_map];have:(fun d:Ax=>d.id != r) ∘ X_ id e.row (e.cs.take k++[C.any]++e.cs.drop (k+[C.any].length))=fun d=>d.id != r:=by funext d;simp [iH]
      grind [List.map_congr_left,tR]
     rw [e1]at g1;have e3: ∀ so,(st.aew id e.row (e.cs.take k++[C.any]++e.cs.drop (k+[C.any].length))).e_ (pD r id) so=st.e_ (pD r id) so:=fun so=>rfl;grind
    ·cases h
   ·cases h
  ·cases h
 ·cases h
def dLx (P:Program) (st:St) (o:Oper) (E n len:Nat) (cs:List C):Option (List Prop×St):=match o.op with
 | .load T x=>match o.dst,(AZ st true x).2,KP P T with
   | some d, .c (.ptr id k),some (ag,n')=>match (!ag&&Nat.beq n' 1)&&(!Dh (d::st.pre)&& !Fj (d::st.pre)),st.Ti id with
     | true,some e=>some ((AZ st true x).1++[e.cs[k]? =some (.isl E n len cs)],
      (st.e_ (pD (d::st.pre) id) (⟨d::st.pre,some (E,n,len),cs,true⟩::((st.so.filter (fun x=>x.id != d::st.pre)).map (Ax.e_ (pD (d::st.pre) id))).map (X_ id e.row (e.cs.set k .any)))).put (some d) (.c (.h_ (d::st.pre))))
     | _,_=>none
   | _,_,_=>none
 | _=>none
theorem zO {E n len:Nat} {cs:List C} {l:List Prop} (h:dLx P st o E n len cs=some (l,a_)) (hl:A8 l) (hK:K a_):DW P I o st K:=by
 unfold dLx at h;split at h
 ·rename_i T x ho;split at h
  ·rename_i d id k ag n' air hx ht;split at h
   ·rename_i e hb he;simp only [Option.some.injEq,injEq]at h;obtain⟨rfl,rfl⟩:=h;obtain⟨q1,q2,_⟩:=Am.1 hl;intro F a w G Q hI hR;have hxv:=Sk hR q1;rw [hx]at hxv;simp only [Ae,Ah]at hxv;obtain⟨b,hb1,hv⟩:=hxv;simp only [and_eq_true,not_eq_true']at hb;obtain⟨G',g1,b2,v,g2,g3,g4,g5⟩:=hR.extract he q2 (r:=d::st.pre) hb.2.1 hb.2.2;rw [hb1]at g2;injection g2 with g2;subst g2;obtain⟨dd,i,hu,hd,_⟩:=C9 ht;have A_:(execOp a.eval o).run P w= .ok (.value v) w:=by simp_all [execOp,DT]
    refine AN A_ ⟨_,G',hK,?_⟩;grind [R.put,Ae,Ah]
   ·cases h
  ·cases h
 ·cases h
def dAa (P:Program) (st:St) (o:Oper) (ln:Nat) (cells:List C):Option (List Prop×St):=match o.op with
 | .call c=>match o.dst,c.callee,c.args.toList,c.argTypes.toList with
   | some d, .builtin .append,[u,x],[t,t']=>match (AZ st true u).2,(AZ st true x).2,Fd P t with
     | .c (.h_ id), .c (.h_ q),some (E,n,by')=>match st.Ti id,st.look q with
       | some e,some eq=>match e.row,eq.row,eq.cs with
         | some (E0,n0,len),some (E1,n1,aj5),[.h_ r]=>match (t==t'&&(E0==E&&n0==n))&&(Nat.beq n 1&&(Nat.beq n1 1&&Nat.beq aj5 1)),st.look r with
           | true,some er=>match er.row,er.pu with
             | some (E2,n2,abf),true=>some (((AZ st true u).1++(AZ st true x).1)++[e.cs++[.isl E2 n2 abf er.cs]=cells,(len+1)*by'<=140737488355328/\len+1<=maxLen,len+1=ln],
              ((st.e_ (· ==id) []).e_ (pD r id) (((((st.so.map (Ax.e_ (· ==id))).map (X_ id (some (E,n,ln)) (e.cs++[.any]))).filter (fun d=>d.id != r)).map (Ax.e_ (pD r id))).map (X_ id (some (E,n,ln)) cells))).put (some d) (.c (.h_ id)))
             | _,_=>none
           | _,_=>none
         | _,_,_=>none
       | _,_=>none
     | _,_,_=>none
   | _,_,_,_=>none
 | _=>none
theorem zQ {ln:Nat} {cells:List C} {l:List Prop} (h:dAa P st o ln cells=some (l,a_)) (hl:A8 l) (hK:K a_):DW P I o st K:=by
 unfold dAa at h;split at h
 case h_2=>cases h
 rename_i c ho;split at h
 case h_2=>cases h
 rename_i d u x t t' air afx acQ aqI;split at h
 case h_2=>cases h
 rename_i id q E n by' hu hx abP;split at h
 case h_2=>cases h
 rename_i e eq he heq;split at h
 case h_2=>cases h
 rename_i E0 n0 len E1 n1 aj5 r apy atp axN;split at h
 case h_2=>cases h
 rename_i er hb her;split at h
 case h_2=>cases h
 rename_i E2 n2 abf IN hpu;simp only [Option.some.injEq,injEq]at h;obtain⟨rfl,rfl⟩:=h;obtain⟨q1,q2,q3,q4,_⟩:=Am.1 hl;subst q4;obtain⟨q1,q1'⟩:=Am.1 q1;simp only [and_eq_true,beq_iff_eq]at hb;obtain⟨⟨rfl,rfl,rfl⟩,hb1,hb2,hb3⟩:=hb;have hn:=eq_of_beq_eq_true hb1;have hn1:=eq_of_beq_eq_true hb2;have hl1:=eq_of_beq_eq_true hb3;subst hn hn1 hl1;intro F a w G Q hI hR;have huv:=Sk hR q1;have hxv:=Sk hR q1';rw [hu]at huv;rw [hx]at hxv;simp only [Ae,Ah]at huv hxv;obtain⟨hm,hid,hd⟩:=PS he;obtain⟨hmq,axz⟩:=Bh heq;obtain⟨hmr,afV⟩:=Bh her;have akp:=FA her;have ai4:r ≠ id:=(by grind);obtain⟨i,z,hty,hi,hz,hsz,hby,hzs⟩:=FV abP;have hEq:=hR.store eq hmq;unfold Be at hEq;rw [atp,axN]at hEq;obtain⟨_,vq,c2,c3⟩:=hEq;rw [axz,hxv.1]at c2;injection c2 with c2;rcases c3 with ⟨p,_,c4,_⟩ | ⟨bq,auc,aFF,c3,_,_,aAy,_,_,c7⟩
 ·cases c4
 simp only [An]at c7;obtain⟨⟨vr,hcr,hvr⟩,_⟩:=c7;simp only [Ah]at hvr;obtain⟨v,xs,k1,k2,k3,k4⟩:=FT apy (hR.store e hm);rw [hid,huv.1]at k1;injection k1 with k1;have hus:Al w G [C.any] [vr]:=by simp_all [Al,Ah]
 have aga: ∀ j u',[vr][j]? =some u'->w.cell? ((⟨bq,0,none⟩:Addr).add j)=some u':=by intro j u' hj;cases j<;>grind [Addr.add_mid]
 have main: ∀ v0 v' w',(Builtin.append_ #[t,t] o.type #[a.eval u,a.eval x]).run P w= .ok v' w'->v0.ownBlock=G.p_ id->(∀ b j u',G.p_ id=some b->xs[j]? =some u'->w.cell? ⟨b,j,none⟩=some u')->w.ownsRow 0 E0 1 v0 len xs->w'.ownsRow 0 E0 1 v' (len+1) (xs++[vr])->w.grownBy w' v0.ownBlock->(v'.ownBlock=v0.ownBlock\/ ∀ b,v'.ownBlock=some b->w.heap.size<=b)->o.wp P a w (oV F K) Q:=by
  intro v0 v' w' A_ hob hxc hold aaF hg hfr;obtain⟨g1,g2⟩:=hR.aiw he apy hob k3 hus hxc hold aaF hg hfr rfl rfl;have hD:=g1.aaa (e:=⟨id,some (E0,1,len+1),e.cs++[C.any],e.pu⟩) (id:=id) (by
   simp only [St.e_,map_map,mem_map,Function.comp];grind [Gv,Ax.E_,Ax.afr]) rfl hd
  have aEM:er.e_ (· ==id)=er:=by obtain⟨i1,r1,cs1,pu1⟩:=er;simp only at hpu;subst hpu;rfl
  have hL:=g1.adk (e:=er) (id:=r) (by
   simp only [St.e_,map_map,mem_map,Function.comp];grind [Gu]) afV akp (by grind)
  have hlx:=k3.length;obtain⟨g,cap,cur,n1,_,n2',n3,n4,n5,n6⟩: ∃ g cap cur,v'= .slice (some ⟨g,0,none⟩) (len+1) cap/\0<=g/\w'.heap[g]? =some (.cells cur E0 (0,0))/\len+1<=cap/\cap<=maxLen/\cur.size=cap*1/\cur.toList.take ((len+1)*1)=xs++[vr]:=by
   rcases aaF.2 with ⟨_,h0⟩ | h1
   all_goals grind
  have ab9:w'.cell? ⟨g,e.cs.length,none⟩=some vr:=by have hrg:=BO n2' (us:=xs++[vr]) (rest:=cur.toList.drop ((len+1)*1)) (by rw [<-n6,take_append_drop]);have:=hrg e.cs.length vr (by grind);grind
  have abn:(Cb F G id v'.ownBlock (some v')).p_ id=some g:=by simp [Cb,n1,Value.ownBlock]
  have axi:(Cb F G id v'.ownBlock (some v')).own r=some vr:=by grind [Cb]
  have hk':e.cs.length<(⟨id,some (E0,1,len+1),e.cs++[C.any],e.pu⟩:Ax).cs.length :=by simp
  obtain⟨G',g3,g4⟩:=g1.anq hD hL IN hpu abn ab9 axi hk';have e1:(e.cs++[C.any]).set e.cs.length (.isl E2 n2 abf er.cs)=cells:=by grind
  rw [show (⟨id,some (E0,1,len+1),e.cs++[C.any],e.pu⟩:Ax).row =some (E0,1,len+1)from rfl,show (⟨id,some (E0,1,len+1),e.cs++[C.any],e.pu⟩:Ax).cs =e.cs++[C.any]from rfl,e1]at g3;have ea:c.args= #[u,x]:=by grind
  have et:c.argTypes= #[t,t]:=by grind
  have atn:(execOp a.eval o).run P w= .ok (.value v') w':=by simp_all [execOp,resolve,invoke,builtin]
  refine AN atn ⟨_,G',hK,?_⟩;rw [air];exact R.put (d:=some d) g3 (show Ae w' G' (V.c (C.h_ id)) v' by simp only [Ae,Ah];exact⟨by rw [g4];simp [Cb],g2⟩)
 have hbb:(len+1)*by'<=140737488355328:=q3.1;rcases k4 with ⟨k4,k5⟩ | ⟨p,hvp,h0,hxs,k5⟩
 ·rw [hid]at k5;have hxc: ∀ b j u',G.p_ id=some b->xs[j]? =some u'->w.cell? ⟨b,j,none⟩=some u':=by intro b j u' hb' hj;have:=k4.cells (g:=b) (by grind) j u' hj;grind [Addr.add_mid]
  obtain⟨v',w',A_,aaz,hg,hfr⟩:=NR (P:=P) (w:=w) t o.type E0 i z 1 by' hty hi hz hsz hby hzs (by omega) v len xs k4 ⟨bq,0,none⟩ 1 auc [vr] (by simp) aga (Al.one hus) q3.2 hbb;grind
 ·rw [hid]at k5;subst h0 hxs;obtain⟨v',w',A_,aaz,hg,hfr⟩:=NS (P:=P) (w:=w) t o.type E0 i z 1 by' hty hi hz hsz hby hzs (by omega) p ⟨bq,0,none⟩ 1 auc [vr] (by simp) aga (by omega) (by omega) (by simpa using hbb);exact main (.slice none 0 0) v' w' (by grind) k5.symm (by grind) ⟨by simp, .inl ⟨rfl,rfl⟩⟩ (by grind) hg (.inr hfr)
end
end Go.PL
namespace Go.PL
open Go Go.RowKit
inductive Stp where
 | a
 | v (x:V)
 | c (r:V)
 | e (len:Nat) (cs:List C)
 | D (x:DS)
def vX (s:Stp) (len:Nat) (cs:List C) (k:Nat->List C->List Prop->Option (List Prop×St)):Option (List Prop×St):=
 match s with
 | .e abW cs'=>k abW cs' [len=abW/\cs=cs']
 | _=>k len cs []
theorem Q1 {s:Stp} {len:Nat} {cs:List C} {k:Nat->List C->List Prop->Option (List Prop×St)} {r:List Prop×St} (h:vX s len cs k=some r):
 ∃ abW cs' l,k abW cs' l=some r/\(A8 l->len=abW/\cs=cs'):=by
 cases s<;>simp only [vX]at h<;>first
  | exact⟨_,_,_,h,fun q=>q.1⟩
  | grind
def Q3 (id:Ak) (len:Nat):List Ax->Prop
 | []=>True
 | e::es=>match e.id==id with
   | true=>lu len e.row=e.row/\Q3 id len es
   | false=>Q3 id len es
def St.an6 (st:St) (id:Ak) (cs:List C) (q:Bool) (len:Nat):St:={st with so:=st.so.map fun e=>match e.id==id with
 | true=>⟨e.id,lu len e.row,cs,e.pu&&q⟩
 | false=>e}
theorem rJ {st:St} {id:Ak} {cs:List C} {q:Bool} {len:Nat} (h:Q3 id len st.so):st.an6 id cs q len=st.acN id cs q:=by
 have: ∀ l:List Ax,Q3 id len l->(l.map fun e=>match e.id==id with
  | true=>(⟨e.id,lu len e.row,cs,e.pu&&q⟩:Ax)
  | false=>e)=l.map fun e=>if e.id==id then(⟨e.id,e.row,cs,e.pu&&q⟩:Ax)else e:=by
  intro l;induction l<;>grind [Q3]
 unfold St.an6 St.acN;rw [this st.so h]
def pk (P:Program) (st:St) (s:Stp) (d:Option Nat) (T:TypeId) (l:List Prop) (x y:V):Option (List Prop×St):=
 match x,y.cells,KP P T with
 | .c (.ptr id off),some cs,some (_,n)=>match st.look id with
   | some e=>match s with
     | .e abW cs'=>Yz (cs.length==n) (l++[off+n<=e.cs.length/\e.cs.take off++cs++e.cs.drop (off+cs.length)=cs',Q3 id abW st.so],(st.an6 id cs' (Ap cs) abW).put d .undef)
     | _=>Yz (cs.length==n&&Nat.ble (off+n) e.cs.length) (l,(st.acN id (e.cs.take off++cs++e.cs.drop (off+cs.length)) (Ap cs)).put d .undef)
   | none=>none
 | _,_,_=>none
theorem Sl {P:Program} {st a_:St} {s:Stp} {d:Option Nat} {T:TypeId} {l l':List Prop} {x y:V} (h:pk P st s d T l x y=some (l',a_)) (hl:A8 l'):
 A8 l/\(Hc P st T x y).1/\(Hc P st T x y).2.put d .undef =a_:=by
 unfold pk at h;unfold Hc;split at h
 ·rename_i id off cs ag n h1 h2;split at h
  ·rename_i e he;split at h
   ·rename_i len cs';obtain⟨hb,hr⟩:=BK h;simp only [injEq]at hr;obtain⟨rfl,rfl⟩:=hr;obtain⟨q1,q2,q3,_⟩:=Am.1 hl;grind [rJ]
   ·obtain⟨hb,hr⟩:=BK h;simp_all
  ·cases h
 ·cases h
def Ac2 (st:St) (n:Nat):V->Option (List Prop×Nat×List C×Bool)
 | .c (.sl m cs)=>some ([cs.length=m*n],m,cs,true)
 | .c (.h_ id)=>match st.look id with
   | some e=>match e.row with
     | some (_,n',m)=>Yz (n'==n) ([],m,e.cs,e.pu)
     | none=>none
   | none=>none
 | _=>none
theorem pm {st:St} {n:Nat} {x:V} {l:List Prop} {r:Nat×List C×Bool} (h:Ac2 st n x=some (l,r)) (hl:A8 l):Sa st n x=some r:=by
 unfold Ac2 at h;unfold Sa;split at h
 ·simp only [Option.some.injEq,injEq]at h;obtain⟨rfl,rfl⟩:=h;exact if_pos hl.1
 ·split at h
  ·rename_i h1;split at h
   ·rename_i h2;obtain⟨hb,hr⟩:=BK h;grind
   ·cases h
  ·cases h
 ·cases h
def iI (P:Program) (st:St) (s:Stp) (d:Nat) (t:TypeId) (l:List Prop) (u x:V):Option (List Prop×St):=
 match u,Fd P t with
 | .c (.h_ id),some (E,n,by')=>match st.look id,Ac2 st n x with
   | some e,some (l2,m,cs,q)=>match e.row with
     | some (E',n',len)=>match E'==E&&n'==n&&Nat.blt 0 n with
       | true=>vX s (len+m) (e.cs++cs) fun abW cs' l3=>
         some (l++(l2++(l3++[(len+m)*by'<=140737488355328/\len+m<=maxLen])),(st.new ⟨id,some (E,n,abW),cs',e.pu&&q⟩).put (some d) (.c (.h_ id)))
       | false=>none
     | none=>none
   | _,_=>none
 | _,_=>none
theorem du {P:Program} {st a_:St} {s:Stp} {d:Nat} {t:TypeId} {l l':List Prop} {u x:V} (h:iI P st s d t l u x=some (l',a_)) (hl:A8 l'):
 A8 l/\(Gr P st d t u x).1/\(Gr P st d t u x).2=a_:=by
 unfold iI at h;unfold Gr;split at h
 ·rename_i id E n by' h1;split at h
  ·rename_i e l2 m cs q h2 h3;split at h
   ·rename_i E' n' len h4;split at h
    ·rename_i hb;obtain⟨abW,cs',l3,hk,ht⟩:=Q1 h;simp only [Option.some.injEq,injEq]at hk;obtain⟨rfl,rfl⟩:=hk;obtain⟨q1,q2⟩:=Am.1 hl;obtain⟨q2,q3⟩:=Am.1 q2;obtain⟨q3,q4,_⟩:=Am.1 q3;obtain⟨rfl,rfl⟩:=ht q3;simp only [and_eq_true,beq_iff_eq,Nat.blt_eq]at hb;simp only [h1,h2,pm h3 q2,h4];grind
    ·cases h
   ·cases h
  ·cases h
 ·cases h
def vY (P:Program) (st:St) (s:Stp) (d:Nat) (t:TypeId) (l:List Prop) (x y:V):Option (List Prop×St):=
 match x,y,s with
 | .c (.bsl id off len), .c (.bsl id2 afm abf), .e abW cs'=>match DG P t with
   | some (_,1)=>match st.look id,st.look id2 with
     | some e,some e2=>Yz (Nat.ble (off+Nat.min abf len) e.cs.length&&Nat.ble (afm+Nat.min abf len) e2.cs.length) (l++[e.cs.take off++(e2.cs.drop afm).take (Nat.min abf len)++e.cs.drop (off+((e2.cs.drop afm).take (Nat.min abf len)).length)=cs',Q3 id abW st.so],
      (st.an6 id cs' (Ap ((e2.cs.drop afm).take (Nat.min abf len))) abW).put (some d) (.c (.int .i64 (Nat.min abf len:Nat))))
     | _,_=>none
   | _=>none
 | _,_,_=>none
theorem lw {P:Program} {st a_:St} {s:Stp} {d:Nat} {t:TypeId} {l l':List Prop} {x y:V} (h:vY P st s d t l x y=some (l',a_)) (hl:A8 l'):
 A8 l/\(Wl P st d t x y).1/\(Wl P st d t x y).2=a_:=by
 unfold vY at h;unfold Wl;split at h
 ·rename_i id off len id2 afm abf abW cs';split at h
  ·rename_i E h0;split at h
   ·rename_i e e2 h1 h2;obtain⟨hb,hr⟩:=BK h;simp only [injEq]at hr;obtain⟨rfl,rfl⟩:=hr;obtain⟨q1,q2,q3,_⟩:=Am.1 hl;simp_all [rJ]
   ·cases h
  ·cases h
 ·cases h
def vZ (P:Program) (st:St) (s:Stp) (d:Nat) (t:TypeId) (p:List Prop) (l c:V):Option (List Prop×St):=
 match l,c,Fd P t with
 | .c (.int _ l), .c (.int _ c),some (E,n,by')=>match Qw P E with
   | some z=>match z.length==n&&Nat.blt 0 n with
     | true=>vX s l.toNat (Cj z l.toNat) fun abW cs' l3=>some (p++(l3++[0<=l/\l<=c/\c*by'<=140737488355328/\c<=maxLen]),(st.new ⟨d::st.pre,some (E,n,abW),cs',true⟩).put (some d) (.c (.h_ (d::st.pre))))
     | false=>none
   | none=>none
 | _,_,_=>none
theorem ly {P:Program} {st a_:St} {s:Stp} {d:Nat} {t:TypeId} {p l':List Prop} {l c:V} (h:vZ P st s d t p l c=some (l',a_)) (hl:A8 l'):
 A8 p/\(KX P st d t l c).1/\(KX P st d t l c).2=a_:=by
 unfold vZ at h;unfold KX;split at h
 ·rename_i h1;split at h
  ·rename_i h2;split at h
   ·rename_i hb;obtain⟨abW,cs',l3,hk,ht⟩:=Q1 h;simp only [Option.some.injEq,injEq]at hk;obtain⟨rfl,rfl⟩:=hk;obtain⟨q1,q2⟩:=Am.1 hl;obtain⟨q2,q3,_⟩:=Am.1 q2;obtain⟨rfl,rfl⟩:=ht q2;simp_all
   ·cases h
  ·cases h
 ·cases h
def MQ (st:St) (g:Bool) (ps:List (Nat×Operand)):List Prop×List (Nat×V):=
 match ps with
 | []=>([],[])
 | (i,x)::r=>((AZ st g x).1++(MQ st g r).1,(i,(AZ st g x).2)::(MQ st g r).2)
theorem UO {st:St} {g:Bool}: ∀ {ps:List (Nat×Operand)},A8 (MQ st g ps).1->(st.parts g ps).1/\(st.parts g ps).2=(MQ st g ps).2
 | [],_=>⟨trivial,rfl⟩
 | (i,x)::r,hl=>by obtain⟨h1,h2⟩:=Am.1 hl;have a:=PQ (st:=st) (g:=g) (x:=x) h1;have b:=UO (st:=st) (g:=g) (ps:=r) h2;simp only [St.parts,MQ];exact⟨⟨a.1,b.1⟩,by rw [a.2,b.2]⟩
def Ac3 (P:Program) (st:St) (s:Stp) (d:Nat) (t:TypeId) (len:Nat) (ps:List (Nat×Operand)):Option (List Prop×St):=
 match Fd P t with
 | some (E,n,_)=>match Qw P E with
   | some z=>match JO (fun i=>some (i*n,n)) (Cj z len) ((MQ st true ps).2.map Wj)with
     | some cs=>match z.length==n&&Nat.blt 0 n&&Nat.ble (len*n) (2 ^ 24)&&Ap cs with
       | true=>vX s len cs fun abW cs' l3=>some ((MQ st true ps).1++l3,(st.new ⟨d::st.pre,some (E,n,abW),cs',true⟩).put (some d) (.c (.h_ (d::st.pre))))
       | false=>none
     | none=>none
   | none=>none
 | none=>none
theorem pn {P:Program} {st a_:St} {s:Stp} {d:Nat} {t:TypeId} {len:Nat} {ps:List (Nat×Operand)} {l':List Prop} (h:Ac3 P st s d t len ps=some (l',a_)) (hl:A8 l'):
 (By P st d t len ps).1/\(By P st d t len ps).2=a_:=by
 unfold Ac3 at h;unfold By;split at h
 ·rename_i h1;split at h
  ·rename_i h2;split at h
   ·rename_i h3;split at h
    ·rename_i hb;obtain⟨abW,cs',l3,hk,ht⟩:=Q1 h;simp only [Option.some.injEq,injEq]at hk;obtain⟨rfl,rfl⟩:=hk;obtain⟨q1,q2⟩:=Am.1 hl;obtain⟨rfl,rfl⟩:=ht q2;simp_all [UO]
    ·cases h
   ·cases h
  ·cases h
 ·cases h
def ef1 (P:Program) (st:St) (s:Stp) (o:Oper):Option (List Prop×St):=
 match o.op with
 | .store T x y=>pk P st s o.dst T ((AZ st true x).1++(AZ st true y).1) (AZ st true x).2 (Xu st (AZ st true x).2 (oQ y (AZ st true y).2))
 | op=>match o.dst with
   | none=>none
   | some d=>match op with
     | .alloc T=>match Y6 P T with
       | some cs=>some ([],(st.new ⟨d::st.pre,none,cs,false⟩).put (some d) (.c (.ptr (d::st.pre) 0)))
       | none=>none
     | .box _ x=>match (AZ st true x).2.cells with
       | some cs=>some ((AZ st true x).1,(st.new ⟨d::st.pre,none,cs,false⟩).put (some d) (.c (.ptr (d::st.pre) 0)))
       | none=>none
     | .assign (.const (.slice none 0 0))=>match DG P o.type with
       | some (E,n)=>some ([],(st.new ⟨d::st.pre,some (E,n,0),[],true⟩).put (some d) (.c (.h_ (d::st.pre))))
       | none=>none
     | .buildSlice t len ps=>Ac3 P st s d t len ps.toList
     | .makeSlice t l c=>vZ P st s d t ((AZ st true l).1++(AZ st true c).1) (AZ st true l).2 (AZ st true c).2
     | .call c=>match c.callee,c.args.toList,c.argTypes.toList with
       | .builtin .append,[u,x],[t,t']=>match t==t' with
         | true=>iI P st s d t ((AZ st true u).1++(AZ st true x).1) (AZ st true u).2 (AZ st true x).2
         | false=>none
       | .builtin .copy,[u,x],[t,_]=>vY P st s d t ((AZ st true u).1++(AZ st true x).1) (AZ st true u).2 (AZ st true x).2
       | _,_,_=>none
     | _=>none
theorem UP {P:Program} {st a_:St} {s:Stp} {o:Oper} {l:List Prop} (h:ef1 P st s o=some (l,a_)) (hl:A8 l):(PL.ef P st o).1/\(PL.ef P st o).2=a_:=by
 have A: ∀ x,A8 (AZ st true x).1->(st.arg true x).1/\(st.arg true x).2=(AZ st true x).2:=fun x hx=>PQ hx;obtain⟨dst,op,ty,pos,aft,gd⟩:=o;cases op<;>cases dst<;>simp only [ef1]at h<;>simp only [PL.ef]<;>try (cases h;done)
 case store.none T x y=>
  have:=Sl h hl;grind [Am]
 case store.some T x y d=>
  have:=Sl h hl;grind [Am]
 case alloc.some T d=>
  grind
 case box.some T x d=>
  grind
 case assign.some x d=>
  grind
 case buildSlice.some t len ps d=>exact pn h hl
 case makeSlice.some t a b d=>
  have:=ly h hl;grind [Am]
 case call.some c d=>
  split at h
  ·rename_i u x t t' h1 h2 h3;split at h
   ·rename_i hb;obtain rfl:t=t':=by grind
    have:=du h hl;simp_all [Am]
   ·cases h
  ·rename_i u x t t' h1 h2 h3;have:=lw h hl;simp_all [Am]
  ·cases h
def Stp.u:Stp->Option V
 | .v x=>some x
 | _=>none
def dNw (P:Program) (st:St) (o:Oper) (t:Option (Nat×List C)):Option (List Prop×St):=match Ck o.op,ef1 P st (match t with
    | none=> .a
    | some (l,cs)=> .e l cs) o,o.dst with
 | .ef,some (l,st1),some d=>match st1.get d with
   | .c (.h_ r)=>match st1.look r with
     | some er=>match er.row,er.pu with
       | some (E,n,len),true=>some (l++[er.cs.all pi=true],(st1.e_ (fun i=>i==r||(i==1000003::r||EL (1000003::r) i)) (⟨1000003::r,some (E,n,len),er.cs,true⟩::((st1.so.filter (fun d=>d.id != r&&d.id != 1000003::r)).map (Ax.e_ (fun i=>i==r||(i==1000003::r||EL (1000003::r) i)))))).put (some d) (.c (.h_ (1000003::r))))
       | _,_=>none
     | none=>none
   | _=>none
 | _,_,_=>none
theorem zS {P:Program} {I:World->Prop} {o:Oper} {st a_:St} {K:St->Prop} {t:Option (Nat×List C)} {l:List Prop} (h:dNw P st o t=some (l,a_)) (hl:A8 l) (hK:K a_):DW P I o st K:=by
 unfold dNw at h;split at h
 case h_2=>cases h
 rename_i l1 st1 d hk hef air;split at h
 case h_2=>cases h
 rename_i r atJ;split at h
 case h_2=>cases h
 rename_i er her;split at h
 case h_2=>cases h
 rename_i E n len IN hpu;simp only [Option.some.injEq,injEq]at h;obtain⟨rfl,rfl⟩:=h;obtain⟨q1,q2,_⟩:=Am.1 hl;intro F a w G Q hI hR;obtain⟨h1,h2⟩:=UP hef q1;have hs:tE P F.I o st (fun s'=>s'=st1):=by grind [tE]
 refine Oper.wp_mono (fun a' w' ⟨s',G',hs',hR'⟩=>?_) (PO hR hs);subst hs';obtain⟨G2,g1,g2⟩:=hR'.ang her IN hpu q2 (id:=1000003::r) rfl rfl;have hv:=hR'.z_ d;rw [show s'.tm.getD d .undef = .c (.h_ r)from atJ]at hv;simp only [Ae,Ah]at hv;exact⟨_,G2,hK,g1.aeQ (by grind [Ae,Ah])⟩
def dBs (P:Program) (st:St) (o:Oper):Option (List Prop×St):=match o.op,o.dst with
 | .buildSlice t len ps,some d=>match Fd P t with
   | some (E,n,_)=>match Qw P E with
     | some z=>match JO (fun i=>some (i*n,n)) (Cj z len) ((MQ st true ps.toList).2.map Wj)with
       | some cs=>match z.length==n&&Nat.blt 0 n&&Nat.ble (len*n) (2 ^ 24)with
         | true=>some ((MQ st true ps.toList).1,(st.new ⟨d::st.pre,some (E,n,len),cs,Ap cs⟩).put (some d) (.c (.h_ (d::st.pre))))
         | false=>none
       | none=>none
     | none=>none
   | none=>none
 | _,_=>none
theorem tS {P:Program} {o:Oper} {st a_:St} {l:List Prop} (h:dBs P st o=some (l,a_)) (hl:A8 l):Ck o.op= .ef /\(PL.ef P st o).1/\(PL.ef P st o).2=a_:=by
 obtain⟨dst,op,ty,pos,aft,gd⟩:=o;unfold dBs at h;simp only at h;split at h
 case h_2=>cases h
 rename_i t len ps d;refine⟨rfl,?_⟩;simp only [PL.ef];unfold By;split at h
 ·rename_i h1;split at h
  ·rename_i h2;split at h
   ·rename_i h3;split at h
    ·rename_i hb;simp only [Option.some.injEq,injEq]at h;obtain⟨rfl,rfl⟩:=h;simp_all [UO]
    ·cases h
   ·cases h
  ·cases h
 ·cases h
def wc (P:Program) (st:St) (o:Oper):DS->Option (List Prop×St)
 | .ld E n len cs=>dLd P st o E n len cs
 | .ix E n len cs=>dIx P st o E n len cs
 | .rd E n len cs u=>dRd P st o E n len cs u
 | .ln E n len cs=>dLn P st o E n len cs
 | .st E n len ln cs cells=>dSt P st o E n len ln cs cells
 | .ps cells=>dPs P st o cells
 | .ab cells=>dAb P st o cells
 | .lx E n len cs=>dLx P st o E n len cs
 | .nw t=>dNw P st o t
 | .bs =>dBs P st o
 | .aa ln cells=>dAa P st o ln cells
theorem tT {P:Program} {I:World->Prop} {o:Oper} {st a_:St} {K:St->Prop} {x:DS} {l:List Prop} (h:wc P st o x=some (l,a_)) (hl:A8 l) (hK:K a_):tE P I o st K:=by
 cases x<;>simp only [wc]at h
 case bs=>
  obtain⟨h1,h2,h3⟩:=tS h hl;grind [tE]
 all_goals refine .inl ?_
 ·exact zH h hl hK
 ·exact zI h hl hK
 all_goals grind [zJ,zK,zL,zM,zN,zO,zS,zQ]
def po (P:Program) (I:World->Prop) (dr:Bool) (ops:Array Oper) (o:Oper) (s:Stp) (st:St):Option (List Prop×St):=
 match o.guard with
 | none=>match Ck o.op with
   | .rd =>match opT P st true s.u o.op with
     | some (l,v)=>some (l,st.put o.dst v)
     | none=>none
   | .cut x=>match dr with
     | true=>match opT P st true s.u o.op with
       | some (l,v)=>some (l,st.put o.dst v)
       | none=>none
     | false=>match opT P (st.cutAt true x) true s.u o.op with
       | some (l,v)=>some (l,(st.cutAt true x).put o.dst v)
       | none=>none
   | .ef =>match dr with
     | true=>none
     | false=>ef1 P st s o
   | .call f xs=>match s with
     | .c r=>match Ci ((Ib st true xs).2.map (BC st))&&(r.flat||(!dr&&Nat.ble (CY (Ib st true xs).2).length 1&&(CY (Ib st true xs).2).all st.ab6))with
       | true=>some ((Ib st true xs).1++[Ce P I f ((Ib st true xs).2.map (BC st)) (· =r)],match dr with
         | true=>st.put o.dst r
         | false=>st.after (CY (Ib st true xs).2) o.dst r)
       | false=>none
     | _=>none
   | .no =>none
 | some (j,want)=>match I5 st ops j want with
   | some g=>match Ck o.op with
     | .rd =>match opT P st g s.u o.op with
       | some ([],v)=>some ([],st.put o.dst (.g g v))
       | some (l,v)=>some ([g=true->A8 l],st.put o.dst (.g g v))
       | none=>none
     | .cut _=>match dr with
       | true=>match opT P st g s.u o.op with
         | some ([],v)=>some ([],st.put o.dst (.g g v))
         | some (l,v)=>some ([g=true->A8 l],st.put o.dst (.g g v))
         | none=>none
       | false=>none
     | .call f xs=>match s with
       | .c r=>match Ci ((Ib st g xs).2.map (BC st))&&(r.flat||(!dr&&(CY (Ib st g xs).2).isEmpty))with
         | true=>some ([g=true->A8 (Ib st g xs).1/\Ce P I f ((Ib st g xs).2.map (BC st)) (· =r)],st.put o.dst (.g g r))
         | false=>none
       | _=>none
     | .ef =>match dr with
       | true=>none
       | false=>match ef1 P st s o with
         | some (l,a_)=>some (l++[g=true],a_)
         | none=>none
     | _=>none
   | none=>none
def lA (P:Program) (I:World->Prop) (dr:Bool) (ops:Array Oper) (o:Oper) (s:Stp) (st:St):Option (List Prop×St):=
 match s with
 | .D x=>match dr,o.guard with
   | false,none=>wc P st o x
   | _,_=>none
 | s=>po P I dr ops o s st
def I7 (P:Program) (I:World->Prop) (dr:Bool) (ops:Array Oper):List Oper->List Stp->St->Option (List Prop×St)
 | [],[],st=>some ([],st)
 | o::rest,s::ss,st=>match lA P I dr ops o s st with
   | some (l,a_)=>match I7 P I dr ops rest ss a_ with
     | some (l',aqe)=>some (l++l',aqe)
     | none=>none
   | none=>none
 | _,_,_=>none
theorem wd {st:St} {g:Bool} {x:Operand}:(st.arg g x).2=(AZ st g x).2:=by grind [AZ,St.arg]
theorem fh {st:St} {g:Bool}: ∀ {xs:List Operand},(st.args g xs).2=(Ib st g xs).2
 | []=>rfl
 | x::xs=>by simp only [St.args,Ib,wd,fh (xs:=xs)]
theorem zT {P:Program} {I:World->Prop} {ops:Array Oper} {o:Oper} {x:DS} {st a_:St} {l:List Prop} {K:St->Prop} (h:lA P I false ops o (.D x) st=some (l,a_)) (hl:A8 l) (hK:K a_):eW P I ops o st K:=by grind [lA,eW,tT]
theorem Zp {P:Program} {I:World->Prop} {ops:Array Oper} {o:Oper} {s:Stp} {st a_:St} {l:List Prop} {K:St->Prop} (h:lA P I false ops o s st=some (l,a_)) (hl:A8 l) (hK:K a_):eW P I ops o st K:=by
 by_cases hD: ∃ x,s= .D x
 ·obtain⟨x,rfl⟩:=hD;exact zT h hl hK
 replace h:po P I false ops o s st=some (l,a_):=by cases s<;>first | exact h | grind
 unfold po at h;unfold eW;split at h
 ·rename_i hg;rw [hg];simp only;unfold tE;right;split at h
  ·rename_i hk;simp only [hk];split at h
   ·rename_i l v ho;simp only [Option.some.injEq,injEq]at h;obtain⟨rfl,rfl⟩:=h;grind [PR]
   ·cases h
  ·rename_i x hk;simp only [hk];dsimp only at h;split at h
   ·rename_i l v ho;simp only [Option.some.injEq,injEq]at h;obtain⟨rfl,rfl⟩:=h;grind [PR]
   ·cases h
  ·grind [UP]
  ·rename_i f xs hk;simp only [hk];split at h
   ·rename_i r;split at h
    ·rename_i hb;simp only [Option.some.injEq,injEq]at h;obtain⟨rfl,rfl⟩:=h;obtain⟨q1,q2,_⟩:=Am.1 hl;obtain⟨k1,k2⟩:=Sh q1;simp only [and_eq_true,or_eq_true,Bool.not_false,true_and,Nat.ble_eq,all_eq_true]at hb;grind
    ·cases h
   ·cases h
  ·cases h
 ·rename_i j want hg;rw [hg];simp only;split at h
  ·rename_i g hq;rw [hq];simp only;unfold wpG;by_cases hef:Ck o.op= .ef
   ·left;rw [hef]at h;dsimp only at h;split at h
    ·rename_i l1 st1 h1;simp only [Option.some.injEq,injEq]at h;obtain⟨rfl,rfl⟩:=h;obtain⟨q1,q2,_⟩:=Am.1 hl;grind [tE,UP]
    ·cases h
   right;split at h
   ·rename_i hk;simp only [hk];split at h
    ·rename_i v ho;simp only [Option.some.injEq,injEq]at h;obtain⟨rfl,rfl⟩:=h;exact⟨v,fun _=>PR ho trivial,hK⟩
    ·rename_i l v hne ho;simp only [Option.some.injEq,injEq]at h;obtain⟨rfl,rfl⟩:=h;exact⟨v,fun hgt=>PR ho (hl.1 hgt),hK⟩
    ·cases h
   ·cases h
   ·rename_i f xs hk;simp only [hk];split at h
    ·rename_i r;split at h
     ·rename_i hb;simp only [Option.some.injEq,injEq]at h;obtain⟨rfl,rfl⟩:=h;simp only [and_eq_true,or_eq_true,Bool.not_false,true_and,List.isEmpty_iff]at hb;refine⟨fun hgt=>?_,r,(by grind [fh]),fun hgt=>?_,hK⟩
      ·obtain⟨k1,k2⟩:=Sh (hl.1 hgt).1;grind
      ·obtain⟨k1,k2⟩:=Sh (hl.1 hgt).1;rw [k2];exact(hl.1 hgt).2
     ·cases h
    ·cases h
   all_goals grind
  ·cases h
theorem iJ {P:Program} {I:World->Prop} {ops:Array Oper}: ∀ {l:List Oper} {ss:List Stp} {st a_:St} {cs:List Prop} {K:St->Prop},I7 P I false ops l ss st=some (cs,a_)->A8 cs->K a_->DN P I ops l st K
 | [],[],st,a_,cs,K,h,_,hK=>by simp only [I7,Option.some.injEq,injEq]at h;obtain⟨rfl,rfl⟩:=h;exact hK
 | o::rest,s::ss,st,a_,cs,K,h,hl,hK=>by
   simp only [I7]at h;split at h
   ·rename_i l1 st1 h1;split at h
    ·rename_i l2 st2 h2;simp only [Option.some.injEq,injEq]at h;obtain⟨rfl,rfl⟩:=h;obtain⟨q1,q2⟩:=Am.1 hl;exact Zp (K:=fun s=>DN P I ops rest s K) h1 q1 (iJ h2 q2 hK)
    ·cases h
   ·cases h
 | [],_::_,_,_,_,_,h,_,_=>by simp [I7]at h
 | _::_,[],_,_,_,_,h,_,_=>by simp [I7]at h
section
variable {P:Program} {F:Fr} {st:St}
theorem Ag.reg {id:Nat} {l:List Oper} {Q:Exit->St->Prop} {ss:List Stp} {cs:List Prop} {a_:St} (hr:I7 P F.I false l.toArray l ss st=some (cs,a_)) (hl:A8 cs) (h:Q .normal a_):Ag P F (.region id l.toArray false) st Q:=
 Ag.region (iJ hr hl h)
theorem Ag.ifB {c:Operand} {x y:Code} {Q:Exit->St->Prop} (b:Bool) (hc:st.ev c= .c (.bool b)) (h1:b=true->Ag P F x st Q) (h2:b=false->Ag P F y st Q):Ag P F (.cond c x y) st Q:=Ag.cond hc h1 h2
def iter {σ ρ:Type} (B:σ->Option (σ⊕ρ)):Nat->σ->Option ρ
 | 0,_=>none
 | n+1,s=>match B s with
   | some (.inl s')=>iter B n s'
   | some (.inr r)=>some r
   | none=>none
end
def Ad (x:Int):Int:=IntKind.i64.wrap x
def gd {α:Type} [Inhabited α] (g:Bool) (o:Option α):Option α:=if g then o else some default
def idx {α:Type} [Inhabited α] (l:List α) (i:Int):Option α:=if 0<=i/\i<l.length then some (l.getD i.toNat default)else none
def IH (s:List UInt8) (i:Int):Option Int:=if 0<=i/\i<s.length then some (s.getD i.toNat 0).toNat else none
def cat (a b:List UInt8):Option (List UInt8):=if a.length+b.length<=maxLen then some (a++b)else none
def Zq (s:List UInt8) (a b:Int):Option (List UInt8):=if 0<=a/\a<=b/\b<=s.length then some ((s.drop a.toNat).take (b.toNat - a.toNat))else none
def pq {α:Type} (s:List α) (a b:Int):Option (List α):=if 0<=a/\a<=b/\b<=s.length then some ((s.drop a.toNat).take (b.toNat - a.toNat))else none
def app {α:Type} (by':Nat) (l m:List α):Option (List α):=if(l.length+m.length)*by'<=140737488355328/\l.length+m.length<=maxLen then some (l++m)else none
def n_ (p:Prop) [Decidable p]:Option Unit:=if p then some ()else none
theorem bS {α β:Type} {o:Option α} {k:α->Option β} {r:β} (h:o.bind k=some r): ∃ x,o=some x/\k x=some r:=by cases o<;>grind
theorem sI {α:Type} {x y:α} (h:some x=some y):x=y:=Option.some.inj h
section
variable {α:Type} [Inhabited α] {l m r:List α} {i:Int} {x:α} {g:Bool}
theorem OD (h:idx l i=some x):0<=i/\i<l.length:=by grind [idx]
theorem lB (h:idx l i=some x):x=l.getD i.toNat default:=by grind [idx]
theorem we {o:Option α} (h:gd g o=some x):g=true->o=some x:=fun hg=>by simp_all [gd]
theorem Ac4 {s:List UInt8} {n:Int} (h:IH s i=some n):0<=i/\i<s.length:=by grind [IH]
theorem Ac5 {s:List UInt8} {n:Int} (h:IH s i=some n):n=(s.getD i.toNat 0).toNat :=by grind [IH]
theorem Ab3 {a b c:List UInt8} (h:cat a b=some c):a.length+b.length<=maxLen:=by grind [cat]
theorem Ab4 {a b c:List UInt8} (h:cat a b=some c):c=a++b:=by grind [cat]
theorem Ac6 {s c:List UInt8} {a b:Int} (h:Zq s a b=some c):0<=a/\a<=b/\b<=s.length:=by grind [Zq]
theorem Ac7 {s c:List UInt8} {a b:Int} (h:Zq s a b=some c):c=(s.drop a.toNat).take (b.toNat - a.toNat):=by grind [Zq]
omit [Inhabited α] in
theorem LT {b:Nat} (h:app b l m=some r):(l.length+m.length)*b<=140737488355328/\l.length+m.length<=maxLen:=by grind [app]
omit [Inhabited α] in
theorem Ab5 {b:Nat} (h:app b l m=some r):r=l++m:=by grind [app]
end
theorem Cz {p:Prop} [Decidable p] {u:Unit} (h:n_ p=some u):p:=by grind [n_]
def eI (k:IntKind) (v:Int):List C:=[.int k v]
def eB (v:Bool):List C:=[.bool v]
def eS (v:List UInt8):List C:=[.str v]
def eL {α:Type} (e:α->List C) (l:List α):List C:=[.sl l.length (l.flatMap e)]
theorem rK {α:Type} [Inhabited α] {l:List α} {i:Int} {x:α} {e:α->List C} {N:Nat} {o n:Nat} {ag:Bool} {v:V} {off:Nat} (hx:idx l i=some x) (hN: ∀ y,(e y).length =N) (acn:off=i.toNat*N+o) (ho:o+n<=N) (h0:ag=true\/0<n)
 (hv:toV ag o n (e x)=v):off+n<=(l.flatMap e).length /\toV ag off n (l.flatMap e)=v:=by
 have hb:=OD hx;have hxx:=lB hx;have hlt:i.toNat<l.length:=by omega
 subst acn;rw [BP hN];constructor
 ·have:(i.toNat+1)*N<=l.length*N:=Nat.mul_le_mul_right _ hlt;grind
 ·rw [<-hv];unfold toV;cases ag with
  | true=>simp only [if_true];grind [fc]
  | false=>simp only [Bool.false_eq_true,if_false];grind [vJ]
def wg (P:Program) (st:St):ResultVar->Option V
 | .tmp t=>some (st.get t)
 | .cell t T=>match rF P T st [] (st.get t)with
   | some (_,v)=>some v
   | none=>none
def fi (P:Program) (st:St):List ResultVar->Option (List V)
 | []=>some []
 | x::xs=>match wg P st x,fi P st xs with
   | some v,some vs=>some (v::vs)
   | _,_=>none
def wh (P:Program) (st:St):List ResultVar->Option V
 | [x]=>wg P st x
 | xs=>match fi P st xs with
   | some vs=>some (.tup vs)
   | none=>none
theorem Zr {P:Program} {st:St} {x:ResultVar} {v:V} (h:wg P st x=some v):(Qk P st x).1/\(Qk P st x).2=v:=by
 cases x with
 | tmp t=>simp only [wg,Option.some.injEq]at h;exact⟨trivial,h⟩
 | cell t T=>
   simp only [wg]at h;split at h
   ·rename_i l u hl;injection h with h;subst h;have:=Ww hl;exact⟨this.2.1,this.2.2⟩
   ·cases h
theorem WA {P:Program} {st:St}: ∀ {xs:List ResultVar} {vs:List V},fi P st xs=some vs->(CF P st xs).1/\(CF P st xs).2=vs
 | [],vs,h=>by simp only [fi,Option.some.injEq]at h;subst h;exact⟨trivial,rfl⟩
 | x::xs,vs,h=>by
   simp only [fi]at h;split at h
   ·rename_i v us h1 h2;injection h with h;subst h;have a:=Zr h1;have b:=WA h2;exact⟨⟨a.1,b.1⟩,by simp only [CF,a.2,b.2]⟩
   ·cases h
theorem lC {P:Program} {st:St} {x:ResultVar}:(Sf P st x).1=(Qk P st x).1/\(Sf P st x).2=BC st (Qk P st x).2:=by cases x<;>exact⟨rfl,rfl⟩
theorem fj {P:Program} {st:St}: ∀ {xs:List ResultVar},(FZ P st xs).1=(CF P st xs).1/\(FZ P st xs).2=(CF P st xs).2.map (BC st)
 | []=>⟨rfl,rfl⟩
 | x::xs=>by have a:=lC (P:=P) (st:=st) (x:=x);have b:=fj (P:=P) (st:=st) (xs:=xs);simp only [FZ,CF,a.1,a.2,b.1,b.2,map_cons,and_self]
def wi (st:St) (rs:List ResultVar):V->V
 | .tup vs=>match rs with
   | [_]=> .tup vs
   | _=> .tup (vs.map (BC st))
 | v=>BC st v
theorem rL {P:Program} {st:St} {rs:List ResultVar} {v r:V} {e:Exit} (he:e= .normal \/e= .ret) (h:wh P st rs=some v) (hs:wi st rs v=r) (hp:r.pure=true) {r':V} (hr:r=r'):
 (e= .normal \/e= .ret)/\(DF P st rs).1/\(DF P st rs).2.pure =true/\(DF P st rs).2=r':=by
 subst hr;have key:(DF P st rs).1/\(DF P st rs).2=r:=by
  match rs with
  | [x]=>
    have a:=Zr h;have b:=lC (P:=P) (st:=st) (x:=x);simp only [DF];rw [b.1,b.2,a.2, <-hs];exact⟨a.1,by cases v<;>rfl⟩
  | []=>
    simp only [wh,fi,Option.some.injEq]at h;subst h;subst hs;exact⟨trivial,rfl⟩
  | x::y::xs=>
    simp only [wh]at h;split at h
    ·rename_i vs hv;injection h with h;subst h;have a:=WA hv;have b:=fj (P:=P) (st:=st) (xs:=x::y::xs);simp only [DF];rw [b.1,b.2,a.2, <-hs];exact⟨a.1,rfl⟩
    ·cases h
 grind
def WB:List Bool->List V->List V
 | [],_=>[]
 | true::m,v::vs=>v::WB m vs
 | false::m,_::vs=> .undef ::WB m vs
 | _::_,[]=>[]
theorem rM: ∀ {m:List Bool} {l l':List V},m.length=l.length->WB m l=l'->lb l l'
 | [],[],l',_,h=>by simp only [WB]at h;subst h;trivial
 | true::m,v::vs,l',hl,h=>by simp only [WB]at h;subst h;exact⟨.inr rfl,rM (by grind) rfl⟩
 | false::m,v::vs,l',hl,h=>by simp only [WB]at h;subst h;exact⟨.inl rfl,rM (by grind) rfl⟩
 | [],_::_,_,hl,_=>by simp at hl
 | _::_,[],_,hl,_=>by simp at hl
section
variable {P:Program} {F:Fr} {st:St}
end
def FU:Nat:=9223372036854775807
theorem iK {α:Type} [Inhabited α] {l:List α} {i:Int} {x:α} {e:α->List C} {N:Nat} {o n base:Nat} {ag:Bool} {v:V} {off:Nat} {cs pre post:List C} (hcs:cs=pre++(l.flatMap e++post)) (hb:pre.length=base) (hx:idx l i=some x) (hN: ∀ y,(e y).length =N) (acn:off=base+(i.toNat*N+o)) (ho:o+n<=N) (h0:ag=true\/0<n)
 (hv:toV ag o n (e x)=v):off+n<=cs.length/\toV ag off n cs=v:=by
 obtain⟨h1,h2⟩:=rK hx hN rfl ho h0 hv;subst hcs acn hb;constructor
 ·grind
 ·rw [<-h2];unfold toV;cases ag with
  | true=>
    simp only [if_true];rw [<-drop_drop,drop_left,List.drop_append_of_le_length (by omega),List.take_append_of_le_length (by simp only [List.length_drop];omega)]
  | false=>
    grind
end Go.PL
namespace Go.PL
open Go Go.RowKit
def Eh (n k:Nat):List Bool:=(List.range k).map (Nat.testBit n)
theorem tU (n k:Nat):(Eh n k).length =k:=by simp [Eh]
theorem fk (n k i:Nat):(Eh n k).toArray.setIfInBounds i true=(Eh (n||| 2 ^ i) k).toArray :=by
 apply Array.ext
 ·simp [Eh]
 ·intro j h1 h2;have hj:j<k:=by simpa [Eh] using h2
  have e:((Eh n k).toArray.setIfInBounds i true).toList =(Eh n k).set i true:=by simp
  have e2:((Eh n k).toArray.setIfInBounds i true)[j]=((Eh n k).set i true)[j]'(by grind):=by grind
  grind [Eh]
def afl (ops:Array Oper) (n:Nat):List Nat:=Region.ready .any ops (Eh n ops.size).toArray
def YB (ops:Array Oper) (nodes:List Nat):Bool:=
 nodes.contains 0&&nodes.all fun n=>(!(afl ops n).isEmpty ||(Eh n ops.size).all id)&&(afl ops n).all fun i=>nodes.contains (n||| 2 ^ i)
def Ac8 (ids:List Ak) (st:St):St:={st with so:=ids.filterMap fun i=>st.so.find? fun e=>e.id==i}
theorem tV (ids:List Ak) (hn:ids.Nodup) (st:St):Cn st (Ac8 ids st) where
 len:=rfl
 tm:=fun _=> .inr rfl
 so:=(by grind [Ac8])
 nd:=fun _=>by
  have: ∀ ids:List Ak,((ids.filterMap fun i=>st.so.find? fun e=>e.id==i).map (·.id)).Sublist ids:=by
   intro ids;induction ids with
   | nil=>simp
   | cons i ids ih=>
     simp only [List.filterMap_cons];split
     all_goals grind
  exact List.Sublist.nodup (this ids) hn
 gh:=⟨rfl,fun _=> .inr rfl⟩
 pre:=rfl
def Ab6 (P:Program) (I:World->Prop) (ops:Array Oper) (ss:List Stp) (ids:List Ak) (st:St) (i:Nat):Option (List Prop×St):=
 match ops[i]?,ss[i]? with
 | some o,some s=>match lA P I false ops o s st with
   | some (c,a_)=>some (c,Ac8 ids a_)
   | none=>none
 | _,_=>none
def Aft (P:Program) (I:World->Prop) (ops:Array Oper) (ss:List Stp) (ids:List Ak) (SL:Nat->St) (nodes:List Nat):List (Option (List Prop×St)):=
 nodes.flatMap fun n=>(afl ops n).map fun i=>Ab6 P I ops ss ids (SL n) i
def Ab7 (ops:Array Oper) (cs:List (List Prop)) (SL:Nat->St) (nodes:List Nat):List (Option (List Prop×St)):=
 nodes.flatMap fun n=>(afl ops n).map fun i=>some (cs.getD i [],SL (n||| 2 ^ i))
theorem rN {α β:Type} {f g:α->Nat->β} {r:α->List Nat}: ∀ {l:List α},(l.flatMap fun n=>(r n).map (f n))=(l.flatMap fun n=>(r n).map (g n))-> ∀ n∈l, ∀ i∈r n,f n i=g n i
 | [],_,n,hn,_,_=>by simp at hn
 | a::l,h,n,hn,i,hi=>by
   simp only [flatMap_cons]at h;have hh:=List.append_inj h (by simp);rcases mem_cons.1 hn with rfl | hn
   ·simp_all
   ·exact rN hh.2 n hn i hi
def rO:List (List Prop)->Prop
 | []=>True
 | l::ls=>A8 l/\rO ls
theorem fl: ∀ {cs:List (List Prop)},rO cs-> ∀ i,A8 (cs.getD i [])
 | [],_,i=>by simp [A8]
 | l::ls,h,0=>by simpa using h.1
 | l::ls,h,i+1=>by simpa using fl h.2 i
section
variable {P:Program} {F:Fr} {st:St} {ops:Array Oper}
theorem UQ {a:Act} {w:World} {G:AG} (h:R F st a w G) {o:Oper} {K:St->Prop} {Q:Exit->Act->World->Prop} (hs:eW P F.I ops o st K):
 if Region.wanted o (yielded ops a.tmps)=true then o.wp P a w (oV F K) Q else oV F K (a.put o.dst Go.undef) w:=by
 unfold eW at hs;split at hs
 ·rename_i hg;rw [FY hg,if_pos rfl];exact PO h hs
 ·rename_i j want hg;split at hs
  ·rename_i g hq;rw [JQ h hg hq];exact eY h hs
  grind
def zU (l:List Bool):Nat:=(l.filter (! ·)).length
theorem rP: ∀ (l:List Bool) (i:Nat),l[i]? =some false->zU (l.set i true)+1=zU l
 | [],i,h=>by simp at h
 | b::l,0,h=>by grind [zU]
 | b::l,i+1,h=>by have:=rP l i (by simpa using h);cases b<;>simp_all [zU]<;>omega
theorem wj: ∀ (l:List Bool),zU l=0->l.all id=true
 | [],_=>rfl
 | true::l,h=>by simp_all [zU]
 | false::l,h=>by simp [zU]at h
theorem Ahw {nodes:List Nat} {ss:List Stp} {ids:List Ak} {cs:List (List Prop)} {SL:Nat->St} {Q:Exit->St->Prop} (hcl:YB ops nodes=true) (aiq:ids.Nodup)
 (hst:Aft P F.I ops ss ids SL nodes=Ab7 ops cs SL nodes) (hc:rO cs) (hQ: ∀ n∈nodes,(Eh n ops.size).all id=true->Q .normal (SL n)):
 ∀ (fuel n:Nat) (a:Act) (w:World) (G:AG),n∈nodes->zU (Eh n ops.size)<=fuel->R F (SL n) a w G->
   wpAny P .any ops (fun e a' w'=> ∃ a_ G',Q e a_/\R F a_ a' w' G') fuel (Eh n ops.size).toArray a w:=by
 simp only [YB,and_eq_true,all_eq_true,or_eq_true,not_eq_true',List.contains_iff_mem]at hcl;have afX:=rN (r:=afl ops) hst;have aiT: ∀ n i,i∈afl ops n->(Eh n ops.size)[i]? =some false:=by intro n i hi;unfold afl Region.ready at hi;simp only [mem_filter,List.mem_range,and_eq_true,not_eq_true']at hi;obtain⟨h1,h2,_⟩:=hi;simp_all [tU]
 intro fuel;induction fuel with
 | zero=>
   intro n a w G hn hu hR;have hz:=wj _ (Nat.le_zero.1 hu);have hr:afl ops n=[]:=by
    rcases hrr:afl ops n with _ | ⟨i,r⟩
    ·rfl
    ·have:=aiT n i (by rw [hrr];simp);rw [all_eq_true]at hz;have:=hz false (mem_of_getElem? this);simp at this
   exact⟨hr,_,G,hQ n hn hz,hR⟩
 | succ fuel ih=>
   intro n a w G hn hu hR;refine⟨fun hr=>?_,fun i hi=>?_⟩
   ·grind [afl]
   ·have hi':i∈afl ops n:=hi;have ai3:=afX n hn i hi';unfold Ab6 at ai3;split at ai3
    ·rename_i o s ho hs;split at ai3
     ·rename_i c a_ hss;simp only [Option.some.injEq,injEq]at ai3;obtain⟨hcc,aw4⟩:=ai3;have hwp:=Zp (K:=fun s'=>Cn s' (SL (n||| 2 ^ i))) hss (hcc▸fl hc i) (aw4▸tV ids aiq a_);have hw:=UQ (Q:=fun e a' w'=> ∃ a_ G',Q e a_/\R F a_ a' w' G') hR hwp;have ag7: ∀ a' w',oV F (fun s'=>Cn s' (SL (n||| 2 ^ i))) a' w'->wpAny P .any ops (fun e a' w'=> ∃ a_ G',Q e a_/\R F a_ a' w' G') fuel ((Eh n ops.size).toArray.setIfInBounds i true) a' w':=by
       intro a' w' ⟨s',G',hl,hR'⟩;rw [fk];refine ih (n||| 2 ^ i) a' w' G' (by grind) ?_ (hR'.less hl);have hb:=aiT n i hi';have e:Eh (n||| 2 ^ i) ops.size=(Eh n ops.size).set i true:=by have:=congrArg Array.toList (fk n ops.size i);grind
       grind [rP]
      unfold wpOp;rw [ho];simp only;by_cases hwt:Region.wanted o (yielded ops a.tmps)=true
      ·rw [if_pos hwt]at hw ⊢;grind [Oper.wp_mono]
      grind
     grind
    grind
theorem Ag.avS {rid:Nat} {l:List Oper} {Q:Exit->St->Prop} (nodes:List Nat) (full:Nat) (ss:List Stp) (ids:List Ak) (SL:Nat->St) (cs:List (List Prop)) (h1:P.follows .mixedOrders =true) (hcl:YB l.toArray nodes=true) (atK:(nodes.all fun n=> !(Eh n l.length).all id||Nat.beq n full)=true) (aiq:ids.Nodup)
 (h0:Cn st (SL 0)) (hst:Aft P F.I l.toArray ss ids SL nodes=Ab7 l.toArray cs SL nodes) (hc:rO cs) (hQ:Q .normal (SL full)):Ag P F (.region rid l.toArray true) st Q:=by
 intro a w G hR;refine wp_region_any h1 ?_;have hR':=(hR.less h0).same (w':={w with drawn:=w.drawn+1}) ⟨rfl,rfl,rfl⟩ ⟨le_refl _,fun _ _=>rfl⟩;have h0':Eh 0 l.toArray.size=List.replicate l.toArray.size false:=by apply List.ext_getElem<;>simp [Eh]
 have key:=Ahw (P:=P) (ops:=l.toArray) (Q:=Q) hcl aiq hst hc (fun n hn afX=>by
  have:=all_eq_true.1 atK n hn;simp_all) l.toArray.size 0 a _ G (by
   simp_all [YB]) (by
   rw [h0'];simp [zU]) hR'
 grind
end
end Go.PL
namespace Go.PL
open Go Go.RowKit
section
variable {P:Program} {I:World->Prop} {ops:Array Oper} {st a_:St} {K:St->Prop}
theorem fo: ∀ {l:List Oper} {n:Nat} {ss:List Stp} {st a_:St} {cs:List Prop},I7 P I false ops (l.take n) ss st=some (cs,a_)->A8 cs->DN P I ops (l.drop n) a_ K->DN P I ops l st K
 | l,0,ss,st,a_,cs,h,hc,hK=>by
   cases ss with
   | nil=>
     simp only [List.take_zero,I7,Option.some.injEq,injEq]at h;grind
   | cons=>simp [I7]at h
 | [],n+1,ss,st,a_,cs,h,hc,hK=>by
   cases ss with
   | nil=>
     simp only [List.take_nil,I7,Option.some.injEq,injEq]at h;grind
   | cons=>simp [I7]at h
 | o::l,n+1,[],st,a_,cs,h,hc,hK=>by simp [I7]at h
 | o::l,n+1,s::ss,st,a_,cs,h,hc,hK=>by
   simp only [List.take_succ_cons,I7]at h;split at h
   ·rename_i l1 st1 h1;split at h
    ·rename_i l2 st2 h2;simp only [Option.some.injEq,injEq]at h;obtain⟨rfl,rfl⟩:=h;obtain⟨q1,q2⟩:=Am.1 hc;exact Zp (K:=fun s=>DN P I ops l s K) h1 q1 (fo h2 q2 (by simpa using hK))
    ·cases h
   ·cases h
theorem Run.part {l:List Oper} (n:Nat) {ss:List Stp} {cs:List Prop} (a_:St) (h:I7 P I false ops (l.take n) ss st=some (cs,a_)) (hc:A8 cs) (hK:DN P I ops (l.drop n) a_ K):DN P I ops l st K:=fo h hc hK
theorem Run.whole {l:List Oper} {ss:List Stp} {cs:List Prop} (a_:St) (h:I7 P I false ops l ss st=some (cs,a_)) (hc:A8 cs) (hK:K a_):DN P I ops l st K:=iJ h hc hK
theorem Run.inl {l rest:List Oper} {o:Oper} (hl:l=o::rest) (hg:o.guard=none) (h:DW P I o st (fun a_=>DN P I ops rest a_ K)):DN P I ops l st K:=by subst hl;simp only [DN,eW,hg];exact .inl h
end
end Go.PL
namespace Go.PL
open Go Go.RowKit
def JZ (l:List Int):List UInt8:=l.map fun n=>UInt8.ofNat n.toNat
theorem MR: ∀ {l:List Int},(∀ n∈l,0<=n/\n<256)->KS (l.flatMap (eI .u8))
 | [],_=>trivial
 | n::l,h=>by rw [flatMap_cons];exact⟨h n (by simp),MR (fun m hm=>h m (by simp [hm]))⟩
theorem OF: ∀ (l:List Int),MJ (l.flatMap (eI .u8))=JZ l
 | []=>rfl
 | n::l=>by rw [flatMap_cons];show UInt8.ofNat n.toNat::MJ (l.flatMap (eI .u8))=_;rw [OF l];rfl
end Go.PL
namespace Go.PL
open Go Go.RowKit
theorem Zs {α:Type} (e:α->List C) {N:Nat} (hN: ∀ y,(e y).length =N): ∀ (l:List α) (k:Nat) (x:α),l[k]? =some x->l.flatMap e=(l.take k).flatMap e++(e x++(l.drop (k+1)).flatMap e)/\((l.take k).flatMap e).length =k*N
 | [],k,x,h=>by simp at h
 | a::l,0,x,h=>by grind
 | a::l,k+1,x,h=>by
   obtain⟨h1,h2⟩:=Zs e hN l k x (by simpa using h);constructor
   ·rw [flatMap_cons,h1];simp [append_assoc]
   ·simp [h2,hN,Nat.add_mul];omega
theorem fp {α:Type} (e:α->List C): ∀ (l:List α) (k:Nat) (x':α),k<l.length->(l.set k x').flatMap e=(l.take k).flatMap e++(e x'++(l.drop (k+1)).flatMap e)
 | [],k,x,h=>by simp at h
 | a::l,0,x,h=>by simp
 | a::l,k+1,x,h=>by rw [List.set_cons_succ,flatMap_cons,fp e l k x (by simpa using h)];simp [append_assoc]
theorem Ac9 {α:Type} [Inhabited α] {l:List α} {i:Int} {x x':α} {e:α->List C} {N o off:Nat} {cs pre post:List C} (hx:idx l i=some x) (hN: ∀ y,(e y).length =N) (acn:off=pre.length+(i.toNat*N+o)) (ho:o+cs.length<=N)
 (hx':(e x).take o++(cs++(e x).drop (o+cs.length))=e x'):off+cs.length<=(pre++(l.flatMap e++post)).length /\
  (pre++(l.flatMap e++post)).take off++cs++(pre++(l.flatMap e++post)).drop (off+cs.length)=pre++((l.set i.toNat x').flatMap e++post):=by
 have hb:=OD hx;have hlt:i.toNat<l.length:=by omega
 have hk:l[i.toNat]? =some x:=by rw [lB hx,List.getElem?_eq_getElem hlt,getD_eq_getElem?_getD,List.getElem?_eq_getElem hlt];rfl
 obtain⟨h1,h2⟩:=Zs e hN l i.toNat x hk;have h3:=fp e l i.toNat x' hlt;have hex:=hN x;rw [h1,h3, <-hx'];subst acn;generalize (l.take i.toNat).flatMap e=A at *;generalize (l.drop (i.toNat+1)).flatMap e=B at *;generalize e x=X at *;constructor
 ·grind
 ·have e1:pre++(A++(X++B)++post)=(pre++(A++X.take o))++((X.drop o).take cs.length++(X.drop (o+cs.length)++(B++post))):=by grind [drop_drop,take_append_drop]
  have l1:(pre++(A++X.take o)).length =pre.length+(i.toNat*N+o):=by grind
  have l2:((X.drop o).take cs.length).length =cs.length:=by grind
  generalize (X.drop o).take cs.length=M at *;generalize X.drop (o+cs.length)=Z at *;rw [e1, <-l1,List.take_left, <-drop_drop,drop_left, <-l2,drop_left];grind
theorem wl {α:Type} [Inhabited α] {l l':List α} {i:Int} {x x':α} {e:α->List C} {N o off base:Nat} {c0 c1 cs pre post:List C} (hc0:c0=pre++(l.flatMap e++post)) (hb:pre.length=base) (hc1:c1=pre++(l'.flatMap e++post)) (hl:l'=l.set i.toNat x') (hx:idx l i=some x) (hN: ∀ y,(e y).length =N)
 (acn:off=base+(i.toNat*N+o)) (ho:o+cs.length<=N) (hx':(e x).take o++(cs++(e x).drop (o+cs.length))=e x'):off+cs.length<=c0.length/\c0.take off++cs++c0.drop (off+cs.length)=c1:=by
 subst hc0 hc1 hl hb;exact Ac9 hx hN acn ho hx'
end Go.PL
namespace Go.PL
open Go Go.RowKit
def z_:Nat->Nat->List (Nat×V)->List V
 | 0,_,_=>[]
 | n+1,i,[]=> .undef ::z_ n (i+1) []
 | n+1,i,(j,v)::l=>match Nat.beq i j with
   | true=>v::z_ n (i+1) l
   | false=> .undef ::z_ n (i+1) ((j,v)::l)
def V.akY:V->Bool
 | .undef =>false
 | _=>true
def Ab8 (st a_:St):St:=⟨WB (a_.tm.map V.akY) st.tm,st.so.filter (fun e=>a_.so.any fun e'=>e'.id==e.id),WB (a_.gh.map V.akY) st.gh,st.pre⟩
def Ada (st a_:St):Bool:=Nat.beq a_.tm.length st.tm.length&&Nat.beq a_.gh.length st.gh.length
theorem tW {st a_:St} (hl:Ada st a_=true):Cn st (Ab8 st a_):=by simp only [Ada,and_eq_true]at hl;have a:=(rM (m:=a_.tm.map V.akY) (l:=st.tm) (by simp_all) rfl).get;have b:=(rM (m:=a_.gh.map V.akY) (l:=st.gh) (by simp_all) rfl).get;exact⟨a.1,a.2,fun _ he=>(mem_filter.1 he).1,fun hn=>List.Sublist.nodup (List.Sublist.map (fun d:Ax=>d.id) filter_sublist) hn,b,rfl⟩
def lD (st a_:St):Option St:=match Ada st a_ with
 | true=>some (Ab8 st a_)
 | false=>none
theorem Cn.t {st a_:St} (h:lD st a_=some a_):Cn st a_:=by grind [lD,tW]
def lE (o:Option (List Prop×St)) (a_:St):Option (List Prop×St):=
 match o with
 | some (cs,st)=>match lD st a_ with
   | some s=>some (cs,s)
   | none=>none
 | none=>none
theorem pt {o:Option (List Prop×St)} {a_:St} {cs:List Prop} (h:lE o a_=some (cs,a_)): ∃ st,o=some (cs,st)/\Cn st a_:=by
 unfold lE at h;split at h
 ·rename_i cs' st;split at h
  ·rename_i s hs;simp only [Option.some.injEq,injEq]at h;obtain⟨rfl,rfl⟩:=h;exact⟨st,rfl,Cn.t hs⟩
  ·cases h
 ·cases h
section
variable {P:Program} {F:Fr} {st:St}
theorem Ag.rg {id:Nat} {l:List Oper} {c:Code} {Q:Exit->St->Prop} {ss:List Stp} {cs:List Prop} (a_:St) (hr:lE (I7 P F.I false l.toArray l ss st) a_=some (cs,a_)) (hl:A8 cs) (h:Ag P F c a_ Q):Ag P F (.seq (.region id l.toArray false) c) st Q:=by obtain⟨st1,h1,h2⟩:=pt hr;exact Ag.seq (Ag.reg h1 hl (Ag.less h2 h))
end
abbrev vI (n:Int):V:= .c (.int .i64 n)
abbrev vB (b:Bool):V:= .c (.bool b)
abbrev vS (s:List UInt8):V:= .c (.str s)
abbrev vP (i:Ak) (o:Nat):V:= .c (.ptr i o)
abbrev vO (i:Ak):V:= .c (.h_ i)
abbrev vL {α:Type} (e:α->List C) (l:List α):V:= .c (.sl l.length (l.flatMap e))
abbrev vA {α:Type} (e:α->List C) (x:α):V:= .agg (e x)
abbrev bx (i:Ak) (cs:List C):Ax:=⟨i,none,cs,false⟩
abbrev I8 {α:Type} (i:Ak) (E N:Nat) (e:α->List C) (l:List α):Ax:=⟨i,some (E,N,l.length),l.flatMap e,true⟩
end Go.PL
namespace Go.PL
end Go.PL
namespace Go.PL
open Go Go.RowKit
def St.setCell (st:St) (i:Ak) (j:Nat) (c:C):St:={st with so:=st.so.map fun e=>if e.id==i&& !e.pu then⟨e.id,e.row,e.cs.set j c,false⟩else e}
def St.aiU (st:St) (i:Ak) (j:Nat):Bool:=
 match st.look i with
 | some e=> !e.pu&&(match e.cs[j]? with
   | some .L_ =>true
   | _=>false)
 | none=>false
theorem Q4 {w:World} {G:AG}: ∀ {cs:List C} {b o j:Nat} {c:C},An w G cs b o->(∀ v d,cs[j]? =some d->Ah w G d v->Ah w G c v)->An w G (cs.set j c) b o
 | [],_,_,_,_,h,_=>by grind
 | d::cs,b,o,0,c,h,hc=>by grind [An]
 | d::cs,b,o,j+1,c,h,hc=>by simp only [An]at h;simp only [List.set_cons_succ,An];exact⟨h.1,Q4 h.2 (fun v d hd=>hc v d (by simpa using hd))⟩
theorem R.setCell {F:Fr} {st:St} {a:Act} {w:World} {G:AG} (h:R F st a w G) {i k:Ak} {j:Nat} (hn:st.aiU i j=true) (hk:G.own k=some (.slice none 0 0)):R F (st.setCell i j (.h_ k)) a w G:={
 dfr:=h.dfr,size:=h.size,z_:=h.z_,I_:=h.I_
 store:=by
  intro e' he';simp only [St.setCell,mem_map]at he';obtain⟨e,he,rfl⟩:=he';split
  ·rename_i hc;simp only [and_eq_true,beq_iff_eq,not_eq_true']at hc;have hE:=h.store e he;have hee: ∃ x,st.look i=some x/\x=e:=by
    unfold St.aiU at hn;cases hl:st.look i with
    | none=>grind
    | some x=>
      refine⟨x,rfl,?_⟩;obtain⟨hm,hid⟩:=Bh hl;have hp:=List.pairwise_map.1 h.nodup;rcases mem_iff_getElem.1 hm with ⟨p,hp1,rfl⟩;rcases mem_iff_getElem.1 he with ⟨q,hq1,rfl⟩;grind [List.pairwise_iff_getElem]
   obtain⟨x,hx,rfl⟩:=hee;have am4:x.cs[j]? =some .L_ :=by unfold St.aiU at hn;grind
   have hc': ∀ v d,x.cs[j]? =some d->Ah w G d v->Ah w G (.h_ k) v:=by intro v d hd hr;rw [am4]at hd;injection hd with hd;subst hd;simp only [Ah]at hr ⊢;subst hr;exact⟨hk,rfl⟩
   unfold Be at hE ⊢;simp only;split at hE
   ·rename_i hrn;obtain⟨b,h1,hbx⟩:=hE;obtain⟨T,cur,h2,h3,h4⟩:=hbx.cells (Yu hx hrn);exact⟨b,h1, .inr ⟨T,cur,h2,by simpa using h3,Q4 h4 hc'⟩⟩
   ·obtain⟨hl,v,h1,h2⟩:=hE;refine⟨by grind,v,h1,?_⟩;rcases h2 with h2 | ⟨b,cap,cur,e1,e2,e3,e4,e5,e6,e7⟩
    ·grind
    ·exact .inr ⟨b,cap,cur,e1,e2,e3,e4,e5,e6,Q4 e7 hc'⟩
  ·exact h.store e he
 deep:=by
  intro e' he';simp only [St.setCell,mem_map]at he';obtain⟨e,he,rfl⟩:=he';split
  ·rename_i hc;simp only [and_eq_true,beq_iff_eq,not_eq_true']at hc;exact⟨(h.deep e he).1,fun hq=>absurd ((h.deep e he).2 hq).1 (by simp [hc.2])⟩
  ·exact h.deep e he
 B_:=by
  intro e' he';simp only [St.setCell,mem_map]at he';obtain⟨e,he,rfl⟩:=he';split
  ·grind
  ·exact h.B_ e he
 nodup:=by
  have:((st.setCell i j (.h_ k)).so.map (·.id))=st.so.map (·.id):=by simp only [St.setCell,map_map];apply List.map_congr_left;grind
  rw [this];exact h.nodup
 inj:=h.inj,lt:=h.lt,new:=h.new,wr:=h.wr,aaS:=h.aaS,inv:=h.inv,aaj:=h.aaj,os:=h.os,tape:=h.tape,output:=h.output,x_:=h.x_,ext:=h.ext}
end Go.PL
namespace Go.PL
open Go Go.RowKit
theorem aC {p:Prop} {l:List Prop} (h:p) (k:A8 l):A8 (p::l):=⟨h,k⟩
theorem aN:A8 []:=trivial
abbrev sl (n:Nat) (l:List (Nat×V)) (so:List Ax):St:=⟨z_ n 0 l,so,[],[]⟩
abbrev sg (n:Nat) (l:List (Nat×V)) (so:List Ax) (m:Nat) (g:List (Nat×V)) (p:Ak):St:=⟨z_ n 0 l,so,z_ m 0 g,p⟩
def MS:List Ak->Bool
 | []=>true
 | i::l=> !(l.contains i)&&MS l
theorem Ic: ∀ {l:List Ak},MS l=true->l.Nodup
 | [],_=>by simp
 | i::l,h=>by simp only [MS,and_eq_true,not_eq_true']at h;refine nodup_cons.2 ⟨fun hm=>?_,Ic h.2⟩;have:=List.contains_iff_mem.2 hm;rw [h.1]at this;cases this
section
variable {P:Program} {F:Fr} {st:St} {id:Nat} {l:List Oper} {c:Code} {Q:Exit->St->Prop} {cs:List Prop} {K:St->Prop}
theorem Rg (ss:List Stp) (a_:St) (hl:A8 cs) (h:Ag P F c a_ Q) (hr:lE (I7 P F.I false l.toArray l ss st) a_=some (cs,a_):=by kernel_rfl):Ag P F (.seq (.region id l.toArray false) c) st Q:=Ag.rg a_ hr hl h
theorem Rp {I:World->Prop} {ops:Array Oper} (n:Nat) (ss:List Stp) (a_:St) (hc:A8 cs) (hK:DN P I ops (l.drop n) a_ K) (h:I7 P I false ops (l.take n) ss st=some (cs,a_):=by kernel_rfl):DN P I ops l st K:=Run.part n a_ h hc hK
theorem Rw {I:World->Prop} {ops:Array Oper} (ss:List Stp) (a_:St) (hc:A8 cs) (hK:K a_) (h:I7 P I false ops l ss st=some (cs,a_):=by kernel_rfl):DN P I ops l st K:=Run.whole a_ h hc hK
theorem At (a_:St) (hh:Ag P F c a_ Q) (h:st=a_:=by kernel_rfl):Ag P F c st Q:=h▸hh
theorem bE {rs:List ResultVar} {e:Exit} {r':V} (v r:V) (hr:r=r') (he:e= .normal \/e= .ret :=by first | exact .inr rfl | exact .inl rfl) (h:wh P st rs=some v:=by kernel_rfl) (hs:wi st rs v=r:=by kernel_rfl) (hp:r.pure=true:=by kernel_rfl):
 (e= .normal \/e= .ret)/\(DF P st rs).1/\(DF P st rs).2.pure =true/\(DF P st rs).2=r':=rL he h hs hp hr
theorem bQ {rs:List ResultVar} {e:Exit} {r':V} (v:V) (hr:v=r') (he:e= .normal \/e= .ret :=by first | exact .inr rfl | exact .inl rfl) (h:wh P st rs=some v:=by kernel_rfl) (hs:wi st rs v=v:=by kernel_rfl) (hp:v.pure=true:=by kernel_rfl):
 (e= .normal \/e= .ret)/\(DF P st rs).1/\(DF P st rs).2.pure =true/\(DF P st rs).2=r':=rL he h hs hp hr
end
theorem Tn {K:St->Prop} {Q:Exit->St->Prop} {st:St} (h:K st):Cv K Q .normal st:=h
theorem Tr {K:St->Prop} {Q:Exit->St->Prop} {st:St} (h:Q .ret st):Cv K Q .ret st:=h
theorem g0 (g:Bool):g=true->A8 []:=fun _=>trivial
theorem g1 (g:Bool):g=true->A8 [g=true->g=true]:=fun _=>⟨id,trivial⟩
theorem g2 (g:Bool):g=true->A8 [g=true->g=true,g=true->g=true]:=fun _=>⟨id,id,trivial⟩
section
variable {l:List Prop}
end
section
variable {α:Type} [Inhabited α] {g:Bool} {o:Option α} {x:α} {p:Prop}
theorem c0 (h:gd g o=some x) (k:o=some x->p):g=true->A8 []/\p:=fun hg=>⟨trivial,k (we h hg)⟩
theorem c1 (h:gd g o=some x) (k:o=some x->p):g=true->A8 [g=true->g=true]/\p:=fun hg=>⟨⟨id,trivial⟩,k (we h hg)⟩
theorem c2 (h:gd g o=some x) (k:o=some x->p):g=true->A8 [g=true->g=true,g=true->g=true]/\p:=fun hg=>⟨⟨id,id,trivial⟩,k (we h hg)⟩
theorem c3 (h:gd g o=some x) (k:o=some x->p):g=true->A8 [g=true->g=true,g=true->g=true,g=true->g=true]/\p:=fun hg=>⟨⟨id,id,id,trivial⟩,k (we h hg)⟩
end
theorem Adb (k:IntKind): ∀ x,(eI k x).length =1:=fun _=>rfl
theorem Ahx: ∀ x,(eS x).length =1:=fun _=>rfl
section
variable {α:Type} [Inhabited α] {l m r:List α} {i:Int} {x:α} {e:α->List C} {N:Nat}
theorem ald (hx:idx l i=some x) (hN: ∀ y,(e y).length =N) (cs:List C) (b m o n:Nat) (ag:Bool) (v:V) (hc:cs=cs.take b++(l.flatMap e++cs.drop m):=by kernel_rfl) (hb:(cs.take b).length =b:=by kernel_rfl) (hv:toV ag o n (e x)=v:=by kernel_rfl) (ho:Nat.ble (o+n) N=true:=by kernel_rfl) (h0:(ag||Nat.blt 0 n)=true:=by kernel_rfl):
 b+i.toNat*N+o+n<=cs.length/\toV ag (b+i.toNat*N+o) n cs=v:=
 iK hc hb hx hN (add_assoc _ _ _) (Nat.le_of_ble_eq_true ho) (by simpa using h0) hv
omit [Inhabited α] in
theorem vw {b:Nat} (h:app b l m=some r) (e:α->List C):l.length+m.length=r.length/\l.flatMap e++m.flatMap e=r.flatMap e:=(by grind [Ab5])
end
end Go.PL
namespace Go.PL
open Go Go.RowKit
theorem Zt {id:Ak} {v:V} (h:v.s_ id=false):Fa id v=v:=by simp_all [Fa]
theorem lF {id:Ak}: ∀ {l:List C},BS id l=false->l.map (Ia id)=l
 | [],_=>rfl
 | c::l,h=>by simp only [BS,or_eq_false_iff]at h;rw [map_cons,lF h.2,Ia,if_neg (by simp [h.1])]
def Ax.fre (id:Ak) (e:Ax):Bool:=e.pu|| !BS id e.cs
theorem Ax.afq {id:Ak} {e:Ax} (h:e.fre id=true):e.kill id=e:=by obtain⟨i,r,cs,pu⟩:=e;cases pu<;>simp_all [Ax.fre,Ax.kill,lF]
def J0:List Nat->Nat->Bool
 | [],_=>false
 | x::l,j=>cond (Nat.beq x j) true (J0 l j)
theorem Fl: ∀ {l:List Nat} {j:Nat},J0 l j=true↔j∈l
 | [],j=>by simp [J0]
 | x::l,j=>by
   simp only [J0,mem_cons];cases h:Nat.beq x j
   ·simp only [cond_false,Fl (l:=l)];have:x ≠ j:=fun e=>by simp_all
    grind
   simp_all
def lG (ops:Array Oper) (i:Nat):List Nat:=match ops[i]? with
 | some o=>(o.after.toList.filter (Region.binds .any)).map (·.on)
 | none=>[]
def iL (ops:Array Oper) (pr:List (List Nat)):Bool:=
 (List.range ops.size).all fun i=>(lG ops i).all (fun j=>Nat.blt j i&&J0 (pr.getD i []) j)&&(pr.getD i []).all fun j=>J0 (lG ops i) j||(lG ops i).any fun k=>J0 (pr.getD k []) j
def bv (v:List Bool):Nat->Bool:=fun j=>v.getD j false
section
variable {P:Program} {F:Fr} {ops:Array Oper}
end
end Go.PL
namespace Go.PL
open Go Go.RowKit
def Wk (st a_:St):Prop:= ∀ (F:Fr) (a:Act) (w:World) (G:AG),R F st a w G-> ∃ G',R F a_ a w G'
theorem Wk.less {st a_:St} (h:Cn st a_):Wk st a_:=fun _ _ _ G hR=>⟨G,hR.less h⟩
theorem Wk.trans {a b c:St} (h:Wk a b) (k:Wk b c):Wk a c:=fun F x w G hR=>by obtain⟨G',q⟩:=h F x w G hR;exact k F x w G' q
theorem Wk.frz (st:St) (id:Ak):Wk st (st.freeze id):=fun _ _ _ _ hR=>by obtain⟨G',q,_⟩:=hR.freeze id;grind
theorem wT {st a_:St} (h:lD st a_=some a_:=by kernel_rfl):Wk st a_:=Wk.less (Cn.t h)
section
variable {P:Program} {F:Fr} {st:St}
theorem Ag.wk {c:Code} {a_:St} {Q:Exit->St->Prop} (h:Wk st a_) (hh:Ag P F c a_ Q):Ag P F c st Q:=fun a w G hR=>by obtain⟨G',q⟩:=h F a w G hR;exact hh a w G' q
theorem Ag.asB {X:Type} (S:X->St) (inv:X->Prop) (μ:X->Nat) {c:Code} {Q:Exit->St->Prop} (x0:X) (h0:inv x0) (hl:Wk st (S x0))
 (hb: ∀ x,inv x->Ag P F c (S x) (Cv (fun a_=> ∃ y,inv y/\μ y<μ x/\Wk a_ (S y)) Q)):Ag P F (.loop c) st Q:=by
 refine Ag.loop (X:=X×St) (fun p=>p.2) (fun p=>inv p.1/\Wk p.2 (S p.1)) (fun p=>μ p.1) (x0,st) ⟨h0,hl⟩ (Cn.refl _) (fun p hp=>?_);refine(Ag.wk hp.2 (hb p.1 hp.1)).mono fun e a_ q=>?_;cases e<;>simp only [Cv]at q ⊢ <;>try exact q
 obtain⟨y,h1,h2,h3⟩:=q;exact⟨(y,a_),⟨h1,h3⟩,h2,Cn.refl _⟩
theorem It {σ ρ:Type} {B:σ->Option (σ⊕ρ)} (S:σ->St) {N:Nat} {s0:σ} {o:ρ} {c:Code} {Q:Exit->St->Prop} (hi:PL.iter B N s0=some o) (hl:Wk st (S s0))
 (hb: ∀ s z,B s=some z->(∀ o',z= .inr o'->o'=o)->Ag P F c (S s) (Cv (fun a_=> ∃ s',z= .inl s'/\Wk a_ (S s')) Q)):Ag P F (.loop c) st Q:=by
 refine Ag.asB (X:=Nat×σ) (fun x=>S x.2) (fun x=>PL.iter B x.1 x.2=some o) (fun x=>x.1) (N,s0) hi hl ?_;intro ⟨n,s⟩ hx;cases n with
 | zero=>simp [PL.iter]at hx
 | succ n=>
   simp only [PL.iter]at hx;cases hB:B s with
   | none=>grind
   | some z=>
     rw [hB]at hx;cases z with
     | inl s'=>
       refine(hb s _ hB (fun o' e=>by cases e)).mono fun e a_ q=>?_;cases e<;>simp only [Cv]at q ⊢ <;>try exact q
       obtain⟨s'',e,hl'⟩:=q;injection e with e;subst e;exact⟨(n,s'),hx,Nat.lt_succ_self _,hl'⟩
     | inr r=>
       simp only [Option.some.injEq]at hx;refine(hb s _ hB (fun o' e=>by injection e with e;rw [<-e];exact hx)).mono fun e a_ q=>?_;cases e<;>simp only [Cv]at q ⊢ <;>try exact q
       grind
theorem Sj {X:Type} (S:X->St) (Φ:X->Prop) {x y:Code} {Q:Exit->St->Prop} (hx:Ag P F x st (Cv (fun a_=> ∃ v,Φ v/\Wk a_ (S v)) Q)) (hy: ∀ v,Φ v->Ag P F y (S v) Q):Ag P F (.seq x y) st Q:=
 Ag.seq (hx.mono fun e a_ q=>by
  cases e<;>simp only [Cv]at q ⊢ <;>try exact q
  grind [Ag.wk])
end
theorem fq {α:Type} (e:α->List C) (x:α) {z:List C} (hz:z=e x) (hp:0<z.length): ∀ k,Cj z k=(List.replicate k x).flatMap e:=by
 intro k;subst hz;apply List.ext_getElem?;intro i;have hlen:((List.replicate k x).flatMap e).length =k*(e x).length :=by simp_all
 by_cases hi:i<k*(e x).length
 ·have hm:i % (e x).length <(e x).length :=Nat.mod_lt _ hp;have key: ∀ k i,i<k*(e x).length ->((List.replicate k x).flatMap e)[i]? =(e x)[i % (e x).length]? :=by intro k;induction k<;>grind [Nat.mod_eq_of_lt,getElem?_append_right,Nat.mod_eq_sub_mod]
  grind [Cj]
 grind [Cj]
theorem wm {α:Type} {s c:List α} {a b:Int} (h:pq s a b=some c):0<=a/\a<=b/\b<=s.length:=by grind [pq]
theorem wn {α:Type} {s c:List α} {a b:Int} (h:pq s a b=some c):c=(s.drop a.toNat).take (b.toNat - a.toNat):=by grind [pq]
theorem Jq {α:Type} {e:α->List C} {N:Nat} (hN: ∀ x,(e x).length =N): ∀ (l:List α) (k:Nat),(l.flatMap e).drop (k*N)=(l.drop k).flatMap e
 | l,0=>by simp
 | [],k+1=>by simp
 | x::l,k+1=>by rw [flatMap_cons,List.drop_succ_cons, <-Jq hN l k,Nat.succ_mul,add_comm, <-drop_drop];congr 1;rw [<-hN x,drop_left]
theorem He {α:Type} {e:α->List C} {N:Nat} (hN: ∀ x,(e x).length =N): ∀ (l:List α) (k:Nat),(l.flatMap e).take (k*N)=(l.take k).flatMap e
 | l,0=>by simp
 | [],k+1=>by simp
 | x::l,k+1=>by rw [flatMap_cons,List.take_succ_cons,flatMap_cons, <-He hN l k,Nat.succ_mul,add_comm, <-hN x,List.take_length_add_append]
theorem Ahy {α:Type} {l r:List α} {a b:Int} {e:α->List C} {N:Nat} (h:pq l a b=some r) (hN: ∀ x,(e x).length =N):V.c (.sl (b.toNat - a.toNat) (((l.flatMap e).drop (a.toNat*N)).take ((b.toNat - a.toNat)*N)))=vL e r:=by
 have hb:=wm h;rw [Jq hN,He hN, <-wn h];have:r.length=b.toNat - a.toNat:=by rw [wn h,List.length_take,List.length_drop];omega
 grind
theorem alP {α:Type} {enc:α->List C} {n:Nat} (hn: ∀ x,(enc x).length =n) (l:List α):(l.flatMap enc).length =l.length*n:=BP hn l
end Go.PL
namespace Go.PL
open Go Go.RowKit
def Di (s:List UInt8):List Int:=s.map fun b=>(b.toNat:Int)
def rQ (P:Program) (dst:TypeId):Option TypeId:=match P.underlying dst with
 | some (.slice e)=>match P.underlying e with
   | some (.int .u8)=>some e
   | _=>none
 | _=>none
theorem pv {P:Program} {dst e:TypeId} (h:rQ P dst=some e):P.underlying dst=some (.slice e)/\P.underlying e=some (.int .u8):=by grind [rQ]
theorem Sm {w:World} {G:AG} {e:TypeId} (s:List UInt8): ∀ (l:List UInt8) (k:Nat),s.drop k=l->An (Lib.bytesWorld w e ⟨s.toArray⟩) G ((Di l).flatMap (eI .u8)) w.heap.size k
 | [],_,_=>by simp [Di,An]
 | b::l,k,h=>by
   have hk:k<s.length:=by grind [List.drop_eq_nil_of_le]
   have hb:s.getD k 0=b:=by have:=congrArg (fun l=>l.head?) h;grind [List.head?_drop]
   have hd:s.drop (k+1)=l:=by have:=congrArg List.tail h;simpa using this
   simp only [Di,map_cons,flatMap_cons,eI,cons_append,List.nil_append,An,Ah];refine⟨⟨_,Lib.bytesWorld_cell w e ⟨s.toArray⟩ k (by simpa [ByteArray.size] using hk),?_⟩,Sm s l (k+1) hd⟩;simp only [getD_eq_getElem?_getD]at hb;simp [getD_eq_getElem?_getD,hb]
theorem DW.bytes {P:Program} {I:World->Prop} {o:Oper} {st:St} {K:St->Prop} {x:Operand} {src dst:TypeId} (e:TypeId) (s:List UInt8)
 (ho:o.op= .convert src dst x) (hlen:s.length<=140737488355328) (hK:K (st.put o.dst (vL (eI .u8) (Di s)))) (ha:st.ev x= .c (.str s):=by kernel_rfl)
 (hs:Eb P src=true:=by kernel_rfl) (hd:rQ P dst=some e:=by kernel_rfl):DW P I o st K:=by
 intro F a w G Q hI hR;obtain⟨h1,h2⟩:=pv hd;have hx:=hR.ev x;rw [ha]at hx;simp only [Ae,Ah]at hx;obtain⟨u,hu⟩: ∃ u,P.underlying src=some u:=by unfold Eb at hs;grind
 have A_:(execOp a.eval o).run P w= .ok (.value (.slice (some ⟨w.heap.size,0,none⟩) s.length (grownCap w s.length 0 e))) (Lib.bytesWorld w e ⟨s.toArray⟩):=by simp_all [Lib.run_convert_string_bytes,execOp,ByteArray.size]
 refine AN A_ ⟨_,G,hK,?_⟩;have hb:=Lib.bytesWorld_below w e ⟨s.toArray⟩;refine(hR.same (Ee hb) (FF hb)).put ?_;have hl:(Di s).length =s.length:=by simp [Di]
 simp only [Ae,Ah,hl];refine⟨(by grind [AX,eI,Ap,C.pure]),_,_,rfl,grownCap_ge _ _ _ _,(by grind [grownCap_le_maxLen,maxLen]),fun h0=>?_, .inr ⟨w.heap.size,0,rfl,fun hw=>absurd (hR.ah_ hw) (by omega),?_,Sm s s 0 rfl⟩⟩
 all_goals grind [Lib.bytesWorld_size]
end Go.PL
namespace Go.PL
open Go Go.RowKit
theorem DW.ahs {P:Program} {I:World->Prop} {o:Oper} {st:St} {K:St->Prop} {t ty:TypeId} {x:Operand} {len:Nat} {cs:List C}
 (ho:o.op= .binOp .eql t x (.const (.slice none 0 0)) ty) (hK: ∀ b,(b=true->len=0)->K (st.put o.dst (vB b)))
 (hx:st.ev x= .c (.sl len cs):=by kernel_rfl) (ht:EI P t=true:=by kernel_rfl):DW P I o st K:=by
 intro F a w G Q hI hR;obtain⟨e,hu⟩:=EJ ht;have hv:=hR.ev x;rw [hx]at hv;simp only [Ae,Ah]at hv;obtain⟨_,p,cap,he,_,_,_,hz⟩:=hv;have A_:(execOp a.eval o).run P w= .ok (.value (.bool p.isNone)) w:=by have hq:=run_equal_slice_nil (P:=P) w t e p len cap hu;have hc:a.eval (.const (.slice none 0 0))= .slice none 0 0:=rfl;simp_all [execOp,eqGuard,binOp]
 refine AN A_ ⟨_,G,hK p.isNone (fun hp=>?_),hR.put (by simp only [Ae,Ah])⟩;grind
end Go.PL
namespace Go.PL
open Go Go.RowKit
structure BZ (P:Program) (I:World->Prop) (f:FuncId) (args:List V) (E n:Nat) (Q:Nat->List C->Prop):Prop where
 ent:ent P f=true
 run: ∀ (w:World) (vs:Array Value) (av:Nat->Prop),I w->(∀ b,av b->b<w.heap.size)->Aq w (im av) args vs.toList->
  Calls P f vs w (fun e w'=> ∃ v len cs us,e= .returned v/\Q len cs/\Ap cs=true/\cs.length=len*n/\
   ((∃ p,v= .slice p 0 0/\len=0)\/Al w' (im fun b=>av b\/v.ownBlock=some b) cs us/\w'.ownsRow w.heap.size E n v len us)/\Below w.heap.size w w')
def Ahz (st:St) (t:Nat) (E n:Nat) (Q:Nat->List C->Prop):Prop:=
 (∃ id e len,st.get t= .c (.h_ id)/\st.look id=some e/\e.row=some (E,n,len)/\Ap e.cs=true/\Q len e.cs)\/(st.get t= .c .L_ /\Q 0 [])
theorem BZ.of {P:Program} {I:World->Prop} (hst:JS I) {f:FuncId} {fn:Func} {c:Code} {args:List V} {E n t m:Nat} {Q:Nat->List C->Prop} (abR:PL.ent P f=true) (hf:P.funcs[f]? =some fn) (hb:fn.body=some c)
 (hr:fn.results= #[.tmp t]) (hn:fn.ntmps=m)
 (h: ∀ w0 av old gv,Ag P ⟨w0,av,old,I,gv⟩ c (St.start args m) (fun e a_=>(e= .normal \/e= .ret)/\Ahz a_ t E n Q)):BZ P I f args E n Q:=by
 refine⟨abR,fun w vs av hI hav acQ=>calls_of_wp hf hb ?_⟩;subst hn;have hR:=R.start hst hI hav acQ fn.ntmps;refine Code.wp_mono (fun e a' w' ⟨a_,G',⟨he,q⟩,hR'⟩=>?_) (h _ _ _ _ _ _ _ hR);have fin:a'.defers=[]/\ ∃ v,(results fn a'.tmps).run P w'= .ok v w'/\(fun(e:Ending) w''=> ∃ v len cs us,e= .returned v/\Q len cs/\Ap cs=true/\cs.length=len*n/\
  ((∃ p,v= .slice p 0 0/\len=0)\/Al w'' (im fun b=>av b\/v.ownBlock=some b) cs us/\w''.ownsRow w.heap.size E n v len us)/\Below w.heap.size w w'') (.returned v) w':=by
  have aw7:(results fn a'.tmps).run P w'= .ok (a'.tmps.getD t Go.undef) w':=by simp_all [F2,JT]
  refine⟨hR'.dfr,_,aw7,?_⟩;have atV:=hR'.below (fun _ hx=>hx);have hsl:=hR'.z_ t;rcases q with ⟨id,e,len,q1,q2,q3,q4,q5⟩ | ⟨q1,q2⟩
  ·have alK:Ae w' G' (a_.get t) (a'.tmps.getD t Go.undef):=hsl;rw [q1]at alK;simp only [Ae,Ah]at alK;obtain⟨hm,hid⟩:=Bh q2;obtain⟨v,us,k1,k2,k3,k4⟩:=FT q3 (hR'.store e hm);have hE:=hR'.store e hm;have hl:e.cs.length=len*n:=by grind [Be]
   rw [hid]at k1;rw [k1]at alK;have hv:v=a'.tmps.getD t Go.undef:=by grind
   refine⟨_,len,e.cs,us,rfl,q5,q4,hl,?_,atV⟩;rw [<-hv];rcases k4 with ⟨k4,k5⟩ | ⟨p,rfl,k5,_⟩
   ·refine .inr ⟨Al.mono (G:=G') ⟨le_refl _,fun _ _ _=>rfl,fun b _ hw=>?_,fun _ _ _ _=>Cg.same rfl⟩ _ _ (fun i hi=>absurd (show BS i e.cs=true from hi) (by rw [AQ i e.cs q4];simp)) k3,?_⟩
    ·rw [hR'.wr];have hw':av b\/v.ownBlock=some b:=hw;grind
    ·refine⟨k4.1,?_⟩;rcases k4.2 with ⟨q,h0⟩ | ⟨g,cap,cur,q,z1,z2,z3,z4,z5,z6⟩
     ·grind
     ·refine .inr ⟨g,cap,cur,q,?_,z2,z3,z4,z5,z6⟩;have hg:G'.p_ e.id=some g:=by rw [<-k5,q];rfl
      rcases hR'.new _ _ hg with q' | q'
      all_goals grind
   grind
  ·have alK:Ae w' G' (a_.get t) (a'.tmps.getD t Go.undef):=hsl;rw [q1]at alK;simp only [Ae,Ah]at alK;exact⟨_,0,[],[],rfl,q2,rfl,by simp,(by grind),atV⟩
 rcases he with rfl | rfl<;>exact fin
end Go.PL
namespace Go.PL
open Go Go.RowKit
theorem BZ.flat {P:Program} {I:World->Prop} {f:FuncId} {args:List V} {E n k:Nat} {ds:List C} (h:BZ P I f args E n (fun len cs=>len=k/\cs=ds)):Ce P I f args (· = .c (.sl k ds)):=by
 refine⟨h.ent,fun w vs av hI hav hr=>(h.run w vs av hI hav hr).mono ?_⟩;rintro e w' ⟨v,len,cs,us,he,⟨rfl,rfl⟩,hp,hl,hv,hb⟩;refine⟨v,_,he,rfl,by simp only [V.pure,C.pure],?_,hb⟩;simp only [Ae,Ah];refine⟨hp,?_⟩;rcases hv with ⟨p,rfl,rfl⟩ | ⟨hr,aaz⟩
 ·grind
 ·have h0:len=0->cs=[]:=fun h0=>(by simp_all);rcases aaz.2 with ⟨q,q0⟩ | ⟨g,cap,cur,q,z1,z2,z3,z4,z5,z6⟩
  ·grind
  ·refine⟨_,cap,q,z3,z4,h0, .inr ⟨g,0,rfl,fun ha=>?_,(by grind),?_⟩⟩
   ·have:=hav g ha;omega
   ·refine An.aaA (vs:=us) ?_ (by grind [BO,take_append_drop]);exact Al.mono (G:=im fun b=>av b\/v.ownBlock=some b) ⟨le_refl _,fun _ _ _=>rfl,fun b _ hw=> .inl hw,fun _ _ _ _=>Cg.same rfl⟩ _ _ (fun i hi=>absurd (show BS i cs=true from hi) (by rw [AQ i cs hp];simp)) hr
end Go.PL
namespace Go.PL
open Go Go.RowKit
section
variable {P:Program} {F:Fr} {st:St}
def wo (Q:Exit->St->Prop):Exit->St->Prop
 | .goto _,_=>False
 | e,st=>Q e st
theorem Ag.label {l:Nat} {Q:Exit->St->Prop} (h:Q .normal st):Ag P F (.label l) st Q:=fun _ _ G hR=>wp_label ⟨st,G,h,hR⟩
theorem Ag.scope {c:Code} {Q:Exit->St->Prop} (h:Ag P F c st (wo Q)):Ag P F (.scope c) st Q:=
 fun a w G hR=>wp_scope_straight (Code.wp_mono (fun e a' w' ⟨a_,G',q,hR'⟩=>by
  cases e<;>simp only [Exit.noGoto,wo]at q ⊢ <;>first
   | exact q.elim
   | grind) (h a w G hR))
end
end Go.PL
namespace Go.PL
open Go Go.RowKit
end Go.PL
namespace Go.PL
open Go Go.RowKit Go.Lib
end Go.PL
namespace Go.PL
open Go Go.RowKit
section
variable {P:Program} {F:Fr} {st:St} {ops:Array Oper}
end
end Go.PL
namespace Go.PL
open Go Go.RowKit
end Go.PL
namespace Go.PL
open Go Go.RowKit Go.MapKept
section
variable {F:Fr} {st:St} {a:Act} {w:World} {G:AG}
end
section
variable {P:Program} {I:World->Prop} {o:Oper} {st:St} {K:St->Prop}
end
end Go.PL
namespace Go.PL
open Go Go.RowKit
theorem DW.aov {P:Program} {I:World->Prop} {o:Oper} {st:St} {K:St->Prop} {x:Operand} {xs:List Operand} {c:Call} {s:Prop} {vs:List V} {f:FuncId} {cs:List C} {fn:Func} {body:Code} {n:Nat} {rs:List ResultVar} (k:Nat)
 (ho:o.op= .call c) (afx:c.callee= .value x) (hxs:c.args.toList=xs) (ha:st.args true xs=(s,vs)) (hs:s) (hf:st.ev x= .c (.bmv f cs)) (abR:ent P f=true) (hfn:P.funcs[f]? =some fn) (hb:fn.body=some body) (hn:fn.ntmps=n) (hr:fn.results=rs.toArray)
 (h: ∀ w0 av old gv,Ag P ⟨w0,av,old,I,gv⟩ body (st.enter k (cs.map V.c++vs) n) (inQ P rs st.tm.length st.pre o.dst K)):DW P I o st K:=by
 intro F a w G Q hI hR;have acQ:Aq w G vs (xs.map a.eval):=by have:=hR.args (g:=true) rfl (xs:=xs) (by grind);grind
 obtain⟨arr,hev,hcs⟩: ∃ arr:Array Value,a.eval x= .func (.func f) arr #[]/\Al w G cs arr.toList:=by have hx:=hR.ev x;grind [Ae,Ah]
 have A_:(execOp a.eval o).run P w= .ok (.enter f (arr++(xs.map a.eval).toArray)) w:=by
  have e:c.args.map a.eval=(xs.map a.eval).toArray :=by grind
  grind [execOp,resolve,Deferred.ofValue,invoke,ab2]
 unfold Oper.wp Oper.upon;rw [A_];simp only;obtain⟨w0,av,old,I',gv⟩:=F;simp only at hI;subst hI;have afX:Aq w G (cs.map V.c++vs) (arr++(xs.map a.eval).toArray).toList :=by grind [I6,UK]
 refine calls_of_wp hfn hb ?_;have hR0:=hR.enter k afX fn.ntmps;rw [hn]at hR0;rw [hn];refine Code.wp_mono (fun e a' w' ⟨a_,G',q,hR'⟩=>?_) (h _ _ _ _ _ _ _ hR0);have hrs:fn.results.toList=rs:=by rw [hr]
 have fin:(Cy P a_ rs).1/\K (a_.back st.tm.length st.pre o.dst (Cy P a_ rs).2)->
  a'.defers=[]/\ ∃ v,(results fn a'.tmps).run P w'= .ok v w'/\oV ⟨w0,av,old,I',gv⟩ K (a.put o.dst v) w':=by
  intro ⟨q1,q2⟩;rw [<-hrs]at q1 q2;obtain⟨v,k1,k2⟩:=MM hR' (fn:=fn) q1;refine⟨hR'.dfr,v,k1,_,G',q2,?_⟩;exact(R.back hR.dfr rfl hR' hR.size.symm st.pre).put k2
 cases e<;>simp only [inQ]at q<;>first | exact fin q | exact q.elim
end Go.PL
