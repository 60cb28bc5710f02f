/- The pure logic: PlR, PlU, PlW, PlS, PlT, PlV, PlX, PlXd, PlXe, PlXf, PlY, PlZ, PlPa, PlPb, PlPc, PlPl, PlPq, PlPw, PlPe, PlPf, PlPg. -/
import Derived.Test.YtekonfaeacligaaGreatDoorPlAtoPlQ
import Derived.LoopN
import Derived.ProofKit
import Derived.OpenShut
import Derived.Handy
import Derived.Lay
import Derived.LaidSub
import Derived.SevenTiedAt
import Derived.Lib.LaidTab
import Derived.Lib.ItoaNum
import Derived.Lib.AtoiAll
import Derived.Lib.Bytealg
import Derived.Lib.Join
open Prod.mk (injEq)
open Bool (and_eq_true or_eq_true not_eq_true' or_eq_false_iff)
open List (map_cons mem_map flatMap_cons all_eq_true mem_filter map_map mem_cons getElem?_append_right drop_drop take_append_drop mem_iff_getElem getElem?_set append_assoc cons_append all_append filter_sublist drop_left all_cons find?_some nodup_cons)
open Nat (eq_of_beq_eq_true add_comm add_zero)
set_option linter.all false
namespace Go.PL
open Go Go.RowKit
def cP:List V->List V->Prop
 | [],[]=>True
 | a::l,b::m=>(b= .undef \/b=a)/\cP l m
 | _,_=>False
theorem cP.get: ∀ {l m:List V},cP l m->m.length=l.length/\ ∀ i,m.getD i .undef = .undef \/m.getD i .undef =l.getD i .undef
 | [],[],_=>(by grind)
 | a::l,b::m,h=>by
   obtain⟨h1,h2⟩:=h;obtain⟨q1,q2⟩:=cP.get h2;refine⟨by simp [q1],fun i=>?_⟩;cases i with
   | zero=>simpa using h1
   | succ i=>simpa using q2 i
 | [],_::_,h=>h.elim
 | _::_,[],h=>h.elim
theorem u0 (a b:Nat):(([a]:List Nat)==[b])=(a==b):=by grind
theorem u4 (a b:Nat):(([a]:List Nat) != [b])=(a != b):=by grind
theorem qd (a b c d:Nat):(([a,c]:List Nat)==[b,d])=(a==b&&c==d):=by grind
theorem y7 (a b:Nat):(([a]:List Nat)=[b])=(a=b):=by simp
theorem cQ (z:List C):BB z 0=[]:=by simp [BB]
theorem Q4 (z:List C) (k:Nat):BB z (k+1)=z++BB z k:=by
 unfold BB;have e:(k+1)*z.length=z.length+k*z.length:=by grind
 rw [e,List.range_add,List.map_append];congr 1
 ·apply List.ext_getElem<;>simp;grind [Nat.mod_eq_of_lt]
 simp_all
theorem ZE (k:IntKind) (l:List Int):Al (l.map (C.int k))=true:=LU _ (fun _=>rfl) l
theorem ZF (l:List (List UInt8)):Al (l.map C.str)=true:=LU _ (fun _=>rfl) l
theorem WR (l:List Bool):Al (l.map C.bool)=true:=LU _ (fun _=>rfl) l
theorem KQ {g:C->C} (hg: ∀ c:C,c.pure=true->g c=c): ∀ {l:List C},Al l=true->l.map g=l
 | [],_=>rfl
 | c::l,h=>by simp only [Al,and_eq_true]at h;rw [map_cons,hg c h.1,KQ hg h.2]
theorem iq (id:Ad) {c:C} (h:c.pure=true):Ft id c=c:=by simp [Ft,Fo id c h]
theorem ir {l:List C} (id:Ad) (h:Al l=true):l.map (Ft id)=l:=KQ (fun _ hc=>iq id hc) h
theorem nI {id:Ad} {len:Nat} {cs:List C} {c:C} (h:c.pure=true):HJ id len cs c=c:=by cases c<;>simp_all [HJ,C.pure,AL]
theorem nJ {id:Ad} {len:Nat} {cs:List C} {l:List C} (h:Al l=true):l.map (HJ id len cs)=l:=KQ (fun _ hc=>nI hc) h
theorem nK {c:C} (h:c.pure=true):N0 c=[]:=by cases c<;>simp_all [N0,C.pure]
theorem XK: ∀ {l:List C},Al l=true->l.flatMap N0=[]
 | [],_=>rfl
 | c::l,h=>by simp only [Al,and_eq_true]at h;rw [flatMap_cons,nK h.1,XK h.2];rfl
attribute [go_sem] Bl ZE ZF WR ir nJ XK AL
attribute [go_sem] u0 u4 qd y7 cQ Q4 Nat.reduceLeDiff Nat.reduceLT Nat.le_refl Nat.reduceBEq Nat.reduceBNe Nat.reduceMul Nat.reduceAdd Nat.reduceSub
end Go.PL
namespace Go.PL
open Go Go.RowKit
section
variable {P:Program} {F:Fr} {st:St} {c:Code} {Q:Exit->St->Prop}
end
end Go.PL
namespace Go.PL
open Go Go.RowKit
def SA (st:St) (x:Operand):Option (FuncId×List C):=
 match st.ev x with
 | .c (.fn f)=>some (f,[])
 | .c (.clo f cs)=>some (f,cs)
 | _=>none
def St.enter (st:St) (k:Nat) (args:List V) (n:Nat):St:=⟨args++List.replicate (n - args.length) .undef,st.so,st.tm++st.gh,k::st.pre⟩
def St.back (st:St) (m:Nat) (pre:Ad) (d:Option Nat) (r:V):St:=(⟨st.gh.take m,st.so,st.gh.drop m,pre⟩:St).put d r
def Mx (P:Program) (st:St):ResultVar->Prop×V
 | .tmp t=>(True,st.get t)
 | .cell t T=>CM P T st (st.get t)
def BR (P:Program) (st:St):List ResultVar->Prop×List V
 | []=>(True,[])
 | x::xs=>((Mx P st x).1/\(BR P st xs).1,(Mx P st x).2::(BR P st xs).2)
def BO (P:Program) (st:St):List ResultVar->Prop×V
 | [x]=>Mx P st x
 | xs=>((BR P st xs).1, .tup (BR P st xs).2)
section
variable {P:Program} {F:Fr} {st:St} {a:Act} {w:World} {G:Ax}
theorem TM (h:R F st a w G) {x:ResultVar} (hs:(Mx P st x).1): ∃ v,(EU a.tmps x).run P w= .ok v w/\Aa w G (Mx P st x).2 v:=by
 cases x with
 | tmp t=>exact⟨_,rfl,h.slots t⟩
 | cell t T=>
   simp only [Mx]at hs ⊢;obtain⟨v,q1,q2⟩:=KJ (P:=P) h (h.slots t) hs;obtain⟨p,aob⟩:=XJ (h.slots t) hs;refine⟨v,?_,q1⟩;grind [Ca.refl,EU,asAddr,Instr.loadAt,Instr.sureAddr]
theorem Q5 (h:R F st a w G): ∀ {xs:List ResultVar},(BR P st xs).1-> ∃ vs,(xs.mapM (EU a.tmps)).run P w= .ok vs w/\Ao w G (BR P st xs).2 vs
 | [],_=>(by simp_all [BR,Ao])
 | x::xs,hs=>by simp only [BR]at hs ⊢;obtain⟨v,q1,q2⟩:=TM h hs.1;obtain⟨vs,k1,k2⟩:=Q5 h hs.2;exact⟨v::vs,by simp_all,by simp only [Ao];grind⟩
theorem nL {xs:List ResultVar}:(BR P st xs).2.length =xs.length:=by induction xs<;>grind [BR]
theorem Js (h:R F st a w G) {fn:Func} (hs:(BO P st fn.results.toList).1): ∃ v,(results fn a.tmps).run P w= .ok v w/\Aa w G (BO P st fn.results.toList).2 v:=by
 generalize hx:fn.results.toList=xs at hs ⊢
 match xs,hx,hs with
 | [x],hx,hs=>
   simp only [BO]at hs ⊢;obtain⟨v,q1,q2⟩:=TM h hs;exact⟨v,by have:=Da (P:=P) (w:=w) (fn:=fn) (tmps:=a.tmps) (vs:=[v]) (by rw [hx];simp [q1]);grind,q2⟩
 | [],hx,hs=>
   simp_all [BO,BR,Aa,Ao,Da]
 | x::y::xs,hx,hs=>
   simp only [BO]at hs ⊢;obtain⟨vs,q1,q2⟩:=Q5 h hs;refine⟨.tuple vs.toArray,?_,by simp only [Aa];grind⟩;have:=Da (P:=P) (w:=w) (fn:=fn) (tmps:=a.tmps) (by rw [hx];exact q1);rw [this];have hl:=Dx q2;rw [nL]at hl
   match vs,hl with
   | v::u::vs,_=>rfl
theorem F6 {w:World} {G:Ax}: ∀ {xs ys:List V} {us vs:List Value},Ao w G xs us->Ao w G ys vs->Ao w G (xs++ys) (us++vs)
 | [],_,us,_,h,h'=>by grind [Ao]
 | x::xs,ys,us,vs,h,h'=>by simp only [Ao]at h;obtain⟨v,r,rfl,h1,h2⟩:=h;simp only [cons_append,Ao];exact⟨v,r++vs,rfl,h1,F6 h2 h'⟩
theorem Q6 {w:World} {G:Ax}: ∀ {xs:List V} {us vs:List Value},Ao w G xs (us++vs)->Ao w G (xs.take us.length) us/\Ao w G (xs.drop us.length) vs
 | xs,[],vs,h=>(by grind [Ao])
 | [],u::us,vs,h=>by simp [Ao]at h
 | x::xs,u::us,vs,h=>by simp only [cons_append,Ao]at h;obtain⟨v,r,e,h1,h2⟩:=h;injection e with e1 e2;subst e1 e2;obtain⟨k1,k2⟩:=Q6 h2;simp only [List.length_cons,List.take_succ_cons,List.drop_succ_cons,Ao];grind
theorem KS {w:World} {G:Ax}: ∀ {xs:List V} {us:List Value},xs.length=us.length->(∀ i,Aa w G (xs.getD i .undef) (us.getD i Go.undef))->Ao w G xs us
 | [],[],_,_=>by simp [Ao]
 | x::xs,u::us,hl,h=>by simp only [Ao];exact⟨u,us,rfl,by simpa using h 0,KS (by grind) (fun i=>by simpa using h (i+1))⟩
 | [],_::_,hl,_=>by simp at hl
 | _::_,[],hl,_=>by simp at hl
theorem PN {w:World} {G:Ax}: ∀ {cs:List C} {us:List Value},Ae w G cs us->Ao w G (cs.map V.c) us
 | [],[],_=>by simp [Ao]
 | c::cs,u::us,h=>by simp only [Ae]at h;simp only [map_cons,Ao];exact⟨u,us,rfl,by grind [Aa],PN h.2⟩
 | [],_::_,h=>by simp [Ae]at h
 | _::_,[],h=>by simp [Ae]at h
theorem R.enter (h:R F st a w G) (k:Nat) {args:List V} {us:Array Value} (ha:Ao w G args us.toList) (n:Nat):
 R {F with gv:=a.tmps.toList++F.gv} (st.enter k args n) {tmps:=us++Array.replicate (n - us.size) Go.undef,defers:=[]} w G:=by
 have hl:=Dx ha;have hl':args.length=us.size:=by grind
 exact {
  dfr:=rfl
  size:=by simp [St.enter,hl']
  slots:=by
   intro i;simp only [St.enter,List.getD_eq_getElem?_getD,Array.getD_eq_getD_getElem?];by_cases hi:i<args.length
   ·grind [Gt]
   grind [Aa]
  t_:=F6 (KS (by simpa using h.size.symm) (fun i=>by have:=h.slots i;simp_all)) h.t_
  store:=h.store,deep:=h.deep,k_:=h.k_,nodup:=h.nodup,inj:=h.inj,lt:=h.lt,new:=h.new,wr:=h.wr,Tu:=h.Tu,inv:=h.inv,Kq:=h.Kq
  os:=h.os,tape:=h.tape,output:=h.output,hsize:=h.hsize,ext:=h.ext}
theorem iu {w:World} {G:Ax} {xs:List V} {us:List Value} (h:Ao w G xs us) (i:Nat):Aa w G (xs.getD i .undef) (us.getD i Go.undef):=by grind [Gt,Aa]
theorem R.back {a':Act} {an:St} (hd:a.defers=[]) {gv:List Value} (hgv:F.gv=a.tmps.toList++gv) (h:R F an a' w G) {m:Nat} (hm:m=a.tmps.size) (pre:Ad):R {F with gv:=gv} ⟨an.gh.take m,an.so,an.gh.drop m,pre⟩ a w G:=by
 have hg:=h.t_;rw [hgv]at hg;obtain⟨h1,h2⟩:=Q6 hg;have e:a.tmps.toList.length=m:=by simp [hm]
 rw [e]at h1 h2;exact {
  dfr:=hd
  size:=by grind [Dx]
  slots:=fun i=>by have:=iu h1 i;simp_all
  t_:=h2
  store:=h.store,deep:=h.deep,k_:=h.k_,nodup:=h.nodup,inj:=h.inj,lt:=h.lt,new:=h.new,wr:=h.wr,Tu:=h.Tu,inv:=h.inv,Kq:=h.Kq
  os:=h.os,tape:=h.tape,output:=h.output,hsize:=h.hsize,ext:=h.ext}
end
def inQ (P:Program) (rs:List ResultVar) (m:Nat) (pre:Ad) (d:Option Nat) (K:St->Prop):Exit->St->Prop
 | .normal,st=>(BO P st rs).1/\K (st.back m pre d (BO P st rs).2)
 | .ret,st=>(BO P st rs).1/\K (st.back m pre d (BO P st rs).2)
 | _,_=>False
theorem El.inline {P:Program} {I:World->Prop} {o:Oper} {st:St} {K:St->Prop} {x:Operand} {xs:List Operand} {c:Call} {s:Prop} {vs:List V} {f:FuncId} {cs:List C} {fn:Func} {body:Code} {n:Nat} {rs:List ResultVar} (k:Nat)
 (ho:o.op= .call c) (aaD:c.callee= .value x) (hxs:c.args.toList=xs) (ha:st.args true xs=(s,vs)) (hs:s) (hf:SA st x=some (f,cs)) (aao:ent P f=true) (hfn:P.funcs[f]? =some fn) (hb:fn.body=some body) (hn:fn.ntmps=n) (hr:fn.results=rs.toArray)
 (h: ∀ w0 av Tc gv,Ak P ⟨w0,av,Tc,I,gv⟩ body (st.enter k (vs++cs.map V.c) n) (inQ P rs st.tm.length st.pre o.dst K)):El P I o st K:=by
 intro F a w G Q hI hR;have aas:Ao w G vs (xs.map a.eval):=by have:=hR.args (g:=true) rfl (xs:=xs) (by grind);grind
 obtain⟨arr,hev,hcs⟩: ∃ arr:Array Value,a.eval x= .func (.func f) #[] arr/\Ae w G cs arr.toList:=by
  have hx:=hR.ev x;unfold SA at hf;split at hf
  ·rename_i f' he;rw [he]at hx;simp only [Option.some.injEq,injEq]at hf;obtain⟨rfl,rfl⟩:=hf;grind [Aa,Ab,Ae]
  ·rename_i f' Tk he;rw [he]at hx;simp only [Option.some.injEq,injEq]at hf;obtain⟨rfl,rfl⟩:=hf;grind [Aa,Ab]
  ·cases hf
 have h_:(execOp a.eval o).run P w= .ok (.enter f ((xs.map a.eval).toArray ++arr)) w:=by
  have e:c.args.map a.eval=(xs.map a.eval).toArray :=by grind
  grind [execOp,resolve,Deferred.ofValue,invoke,Tv]
 unfold Oper.wp Oper.upon;rw [h_];simp only;obtain⟨w0,av,Tc,I',gv⟩:=F;simp only at hI;subst hI;have abg:Ao w G (vs++cs.map V.c) ((xs.map a.eval).toArray ++arr).toList :=by grind [F6,PN]
 refine calls_of_wp hfn hb ?_;have hR0:=hR.enter k abg fn.ntmps;rw [hn]at hR0;rw [hn];refine Code.wp_mono (fun e a' w' ⟨an,G',q,hR'⟩=>?_) (h _ _ _ _ _ _ _ hR0);have hrs:fn.results.toList=rs:=by rw [hr]
 have fin:(BO P an rs).1/\K (an.back st.tm.length st.pre o.dst (BO P an rs).2)->
  a'.defers=[]/\ ∃ v,(results fn a'.tmps).run P w'= .ok v w'/\hH ⟨w0,av,Tc,I',gv⟩ K (a.put o.dst v) w':=by
  intro ⟨q1,q2⟩;rw [<-hrs]at q1 q2;obtain⟨v,k1,k2⟩:=Js hR' (fn:=fn) q1;refine⟨hR'.dfr,v,k1,_,G',q2,?_⟩;exact(R.back hR.dfr rfl hR' hR.size.symm st.pre).put k2
 cases e<;>simp only [inQ]at q<;>first | exact fin q | exact q.elim
end Go.PL
namespace Go.PL
open Go Go.RowKit Go.ChangeShapes Go.WideShapes
theorem MJ {H:Type} {enc:TypeId×Value->H} {P:Program} (hl:laidOutB P=true) {W W':World} (hb:Below W.heap.size W W'):
 ∀ {ts:List TypeId} {vs:List Value} {ds:List (DataW H)} {ps:List MemPlace},(ts.all fun t=>P.readableRec t&&decide (t<P.types.size))=true->DataW.TrodAll enc P W 0 (fun _=>true) true ts vs ds ps->(∀ x∈ps,x.block<W.heap.size)->
   DataW.TrodAll enc P W' 0 (fun b=>decide (b<W.heap.size)) true ts vs ds ps
 | [],_,_,_,_,h,_=>by obtain⟨rfl,rfl,rfl⟩:=trodAll_nil h;exact trodAll_mk0
 | t::ts,_,_,_,hr,h,Tw=>by obtain⟨v,vs1,d,ds1,a,b,rfl,rfl,rfl,h1,h2⟩:=trodAll_cons h;simp only [all_cons,and_eq_true,decide_eq_true_eq]at hr;exact⟨a,b,(by grind [Below.trod]),MJ hl hb hr.2 h2 (fun x hx=>Tw x (by simp [hx])),rfl⟩
theorem Cm.law {P:Program} {I:World->Prop} {f:FuncId} {xs:List V} (h:Cm P I f xs (· = .c (.bool true))) {W:World} (hI:I W) {args:Array Value} (ha:Ao W (im fun _=>False) xs args.toList):
 Calls P f args W fun e W'=>e= .returned (.bool true)/\Below W.heap.size W W':=by
 refine(h.run W args (fun _=>False) hI (fun _ h=>h.elim) ha).mono fun e W' ⟨v,r,he,hr,_,hv,hb⟩=>⟨?_,hb⟩;grind [Aa,Ab]
end Go.PL
namespace Go.PL
open Go Go.RowKit Go.ChangeShapes Go.WideShapes
def PO (R:TypeId->List C->Prop):List TypeId->List (List C)->Prop
 | [],B2=>B2=[]
 | t::ts,B2=> ∃ ds r,B2=ds::r/\R t ds/\PO R ts r
def AM (P:Program):Nat->TypeId->List C->Prop
 | 0,_,_=>False
 | n+1,t,cs=>match P.underlying t with
   | some .bool => ∃ b,cs=[.bool b]
   | some (.int k)=> ∃ z,cs=[.int k z]/\(Lit.int k z).wf =true
   | some .string => ∃ s:List UInt8,cs=[.str s]/\s.length<=reachBytes
   | some (.slice e)=> ∃ B2:List (List C),cs=[.sl B2.length B2.flatten]/\B2.length*P.bytesOf e<=reachBytes/\ ∀ ds∈B2,AM P n e ds
   | some (.struct fs)=> ∃ B2:List (List C),cs=B2.flatten/\PO (AM P n) (fs.toList.map (·.type)) B2
   | some (.array m e)=> ∃ B2:List (List C),cs=B2.flatten/\B2.length=m/\ ∀ ds∈B2,AM P n e ds
   | some (.pointer e)=>cs=[.aaJ]\/ ∃ ds,cs=[.aaq ds 0]/\AM P n e ds
   | some (.interface _)=>cs=[.K_]\/cs=[.held]
   | _=>False
theorem Fj: ∀ {B2:List (List C)},(∀ ds∈B2,Al ds=true)->Al B2.flatten=true
 | [],_=>rfl
 | ds::B2,h=>by rw [List.flatten_cons,Bl,h ds (by simp),Fj (fun d hd=>h d (by simp [hd]))];rfl
theorem XL {R:TypeId->List C->Prop} (hR: ∀ t ds,R t ds->Al ds=true): ∀ {ts:List TypeId} {B2:List (List C)},PO R ts B2-> ∀ ds∈B2,Al ds=true
 | [],B2,h,ds,hd=>by grind [PO]
 | t::ts,B2,h,ds,hd=>by
   simp only [PO]at h;obtain⟨d,r,rfl,h1,h2⟩:=h;rcases mem_cons.1 hd with rfl | hd
   ·exact hR t _ h1
   ·exact XL hR h2 ds hd
theorem Jt {P:Program}: ∀ {n:Nat} {t:TypeId} {cs:List C},AM P n t cs->Al cs=true
 | 0,_,_,h=>h.elim
 | n+1,t,cs,h=>by
   unfold AM at h;split at h
   ·obtain⟨b,rfl⟩:=h;rfl
   ·obtain⟨z,rfl,_⟩:=h;rfl
   ·obtain⟨s,rfl,_⟩:=h;rfl
   ·obtain⟨B2,rfl,_⟩:=h;rfl
   ·obtain⟨B2,rfl,h2⟩:=h;exact Fj (XL (fun t ds h=>Jt h) h2)
   ·obtain⟨B2,rfl,_,h2⟩:=h;exact Fj (fun ds hd=>Jt (h2 ds hd))
   ·rcases h with rfl | ⟨ds,rfl,_⟩<;>rfl
   ·rcases h with rfl | rfl<;>rfl
   grind
section
variable {H:Type} {enc:TypeId×Value->H} {P:Program} {w:World} {spare:Nat->Bool}
theorem TN {G:Ax}: ∀ {a b:List C} {u v:List Value},Ae w G a u->Ae w G b v->Ae w G (a++b) (u++v)
 | [],_,[],_,_,h=>h
 | _::_,_,_::_,_,h,h'=>by simp only [Ae]at h;simp only [cons_append,Ae];exact⟨h.1,TN h.2 h'⟩
 | [],_,_::_,_,h,_=>by simp [Ae]at h
 | _::_,_,[],_,h,_=>by simp [Ae]at h
theorem cR {G:Ax}: ∀ {a:List C} {u:List Value},Ae w G a u->a.length=u.length
 | [],[],_=>rfl
 | _::_,_::_,h=>by simp only [Ae]at h;simp [cR h.2]
 | [],_::_,h=>by simp [Ae]at h
 | _::_,[],h=>by simp [Ae]at h
theorem PQ {G:Ax} {b:Nat}: ∀ {cs:List C} {ds:List Value} {o:Nat},Ae w G cs ds->(∀ j,j<ds.length->w.cell? ⟨b,o+j,none⟩=ds[j]?)->Ai w G cs b o
 | [],_,_,_,_=>by simp [Ai]
 | c::cs,d::ds,o,h,hc=>by simp only [Ae]at h;simp only [Ai];refine⟨⟨d,by simpa using hc 0 (by simp),h.1⟩,PQ h.2 (fun j hj=>?_)⟩;have:=hc (j+1) (by simp;omega);simpa [Nat.add_assoc,add_comm 1 j] using this
 | _::_,[],_,h,_=>by simp [Ae]at h
theorem TO {G:Ax} {b:Nat}: ∀ {cs Tk:List C} {o:Nat},Ai w G cs b o->Ai w G Tk b (o+cs.length)->Ai w G (cs++Tk) b o
 | [],_,_,_,h=>by grind
 | c::cs,Tk,o,h,h'=>by simp only [Ai]at h;simp only [cons_append,Ai];exact⟨h.1,TO h.2 (by simpa [Nat.add_assoc,add_comm 1] using h')⟩
theorem cS {a:Addr} {n:Nat} {cs:List Value} (hn:0<n) (h:w.cells? 0 a n=some cs):a=⟨a.block,a.off,none⟩/\a.block<w.heap.size/\cs.length=n/\ ∀ j,j<n->w.cell? ⟨a.block,a.off+j,none⟩=cs[j]? :=by
 obtain⟨_,hl,hc⟩:=World.cells?_some h;have h0:=hc 0 hn;obtain⟨b,o,sp⟩:=a;have hsp:sp=none:=by
  cases sp with
  | none=>rfl
  | some x=>
    have e:cs[0]? =some cs[0]:=by grind
    rw [e]at h0;simp only [Addr.add,if_true]at h0;grind [World.cell?]
 subst hsp;refine⟨rfl,World.cells?_block h hn,hl,fun j hj=>?_⟩;grind [Addr.add]
def u5 (P:Program):Nat->List Field->Bool
 | _,[]=>true
 | o,f::fs=>f.offset==o&&u5 P (o+P.cellsOf f.type) fs
def ya (P:Program):Nat->TypeId->Bool
 | 0,_=>false
 | n+1,t=>match P.underlying t with
   | some .bool =>P.cellsOf t==1
   | some (.int _)=>P.cellsOf t==1
   | some .string =>P.cellsOf t==1
   | some (.slice e)=>P.cellsOf t==1&&decide (0<P.cellsOf e)&&ya P n e
   | some (.struct fs)=>u5 P 0 fs.toList&&P.cellsOf t==(fs.toList.map fun f=>P.cellsOf f.type).sum &&fs.toList.all (fun f=>ya P n f.type)
   | some (.array m e)=>P.cellsOf t==m*P.cellsOf e&&ya P n e
   | some (.pointer e)=>P.cellsOf t==1&&decide (0<P.cellsOf e)&&ya P n e
   | some (.interface _)=>P.cellsOf t==1
   | _=>false
variable {G:Ax} (hG: ∀ b,b<w.heap.size-> ¬G.wr b)
def lw (enc:TypeId×Value->H) (P:Program) (w:World) (spare:Nat->Bool) (G:Ax) (n:Nat) (t:TypeId):Prop:=
 ∀ (fuel:Nat) (vs:List Value) (x:DataW H×List MemPlace),DataW.trod enc P w 0 spare true fuel t vs=some x->(x.1.weights P t).all (· <=reachBytes)=true-> ∃ cs,Ae w G cs vs/\AM P n t cs/\vs.length=P.cellsOf t
theorem Q7 {n:Nat}: ∀ {fs:List Field} {o m:Nat} {vs:List Value} {xs:List (DataW H×List MemPlace)},u5 P o fs=true->vs.length=o+(fs.map fun f=>P.cellsOf f.type).sum ->xs.length=fs.length->
 (∀ f∈fs,lw enc P w spare G n f.type)->
 (∀ (i:Nat) (f:Field),fs[i]? =some f->DataW.trod enc P w 0 spare true m f.type ((vs.drop f.offset).take (P.cellsOf f.type))=xs[i]?)->
 (DataW.weightsEach P (fs.map (·.type)) (xs.map (·.1))).all (· <=reachBytes)=true-> ∃ B2:List (List C),Ae w G B2.flatten (vs.drop o)/\PO (AM P n) (fs.map (·.type)) B2
 | [],o,m,vs,xs,_,hl,_,_,_,_=>by
   refine⟨[],?_,rfl⟩;have:vs.drop o=[]:=by simp_all
   rw [this];simp [Ae]
 | f::fs,o,m,vs,xs,ht,hl,hx,hr,hf,hw=>by
   simp only [u5,and_eq_true,beq_iff_eq]at ht;obtain⟨h1,h2⟩:=ht;cases xs with
   | nil=>simp at hx
   | cons x xs=>
     simp only [map_cons,List.sum_cons]at hl;simp only [map_cons,DataW.weightsEach,all_append,and_eq_true]at hw;have h0:=hf 0 f rfl;simp only [List.getElem?_cons_zero]at h0;obtain⟨cs,q1,q2,q3⟩:=hr f (by simp) m _ x h0 hw.1;obtain⟨B2,k1,k2⟩:=Q7 (o:=o+P.cellsOf f.type) (m:=m) (vs:=vs) (xs:=xs) h2 (by omega) (by grind) (fun g hg=>hr g (by simp [hg]))
      (fun i g hg=>by have:=hf (i+1) g (by simpa using hg);grind) hw.2
     refine⟨cs::B2,?_,cs,B2,rfl,q2,k2⟩;grind [drop_drop,take_append_drop,TN]
theorem TP {n e:Nat} (hr:lw enc P w spare G n e): ∀ (k o m:Nat) (vs:List Value) (xs:List (DataW H×List MemPlace)),vs.length=o+k*P.cellsOf e->xs.length=k->
 (∀ i,i<k->DataW.trod enc P w 0 spare true m e ((vs.drop (o+i*P.cellsOf e)).take (P.cellsOf e))=xs[i]?)->
 (DataW.weightsAll P e (xs.map (·.1))).all (· <=reachBytes)=true-> ∃ B2:List (List C),Ae w G B2.flatten (vs.drop o)/\B2.length=k/\ ∀ ds∈B2,AM P n e ds
 | 0,o,m,vs,xs,hl,_,_,_=>by refine⟨[],?_,rfl,by simp⟩;grind [Ae]
 | k+1,o,m,vs,xs,hl,hx,hf,hw=>by
   cases xs with
   | nil=>simp at hx
   | cons x xs=>
     simp only [map_cons,DataW.weightsAll,all_append,and_eq_true]at hw;have h0:=hf 0 (by omega);simp only [Nat.zero_mul,add_zero,List.getElem?_cons_zero]at h0;obtain⟨cs,q1,q2,q3⟩:=hr m _ x h0 hw.1;obtain⟨B2,k1,k2,k3⟩:=TP hr k (o+P.cellsOf e) m vs xs (by grind) (by grind)
      (by grind) hw.2
     refine⟨cs::B2,?_,by simp [k2],?_⟩
     ·grind [drop_drop,take_append_drop,TN]
     grind
theorem TQ {n e:Nat} (alF:0<P.cellsOf e) (hr:lw enc P w spare G n e): ∀ (k o m:Nat) (a:Addr) (xs:List (DataW H×List MemPlace)),xs.length=k->
 (∀ i,i<k->(w.cells? 0 (a.add (o+i*P.cellsOf e)) (P.cellsOf e)).bind (DataW.trod enc P w 0 spare true m e)=xs[i]?)->
 (DataW.weightsAll P e (xs.map (·.1))).all (· <=reachBytes)=true->
 ∃ B2:List (List C),B2.length=k/\(∀ ds∈B2,AM P n e ds)/\(0<k->a.block<w.heap.size/\(o=0->a=⟨a.block,a.off,none⟩)/\Ai w G B2.flatten a.block (a.off+o))
 | 0,o,m,a,xs,_,_,_=>(by simp_all)
 | k+1,o,m,a,xs,hx,hf,hw=>by
   cases xs with
   | nil=>simp at hx
   | cons x xs=>
     simp only [map_cons,DataW.weightsAll,all_append,and_eq_true]at hw;have h0:=hf 0 (by omega);simp only [Nat.zero_mul,add_zero,List.getElem?_cons_zero,Option.bind_eq_some_iff]at h0;obtain⟨vs,hvs,htr⟩:=h0;obtain⟨cs,q1,q2,q3⟩:=hr m _ x htr hw.1;obtain⟨c1,c2,c3,c4⟩:=cS alF hvs;obtain⟨B2,k2,k3,k4⟩:=TQ alF hr k (o+P.cellsOf e) m a xs (by grind)
      (by grind) hw.2
     have aad:(a.add o).block =a.block:=by grind [Addr.add]
     have aaC:(a.add o).off =a.off+o:=by grind [Addr.add]
     refine⟨cs::B2,by simp [k2],?_,fun _=>⟨by grind,fun ho=>?_,?_⟩⟩
     ·grind
     ·subst ho;have e:a.add 0=a:=rfl;grind
     grind [cR,TO,PQ,List.length_eq_zero_iff]
theorem TR {c:C} {v:Value} (h:Ab w G c v):Ae w G [c] [v]:=by simp_all [Ae]
theorem ly {len:Nat} {cs:List C} {v:Value} (hp:Al cs=true) (h: ∃ a cap,v= .slice a len cap/\len<=cap/\cap<=maxLen/\(len=0->cs=[])/\
 (len=0\/ ∃ b off,a=some ⟨b,off,none⟩/\ ¬G.wr b/\b<w.heap.size/\Ai w G cs b off)):Ab w G (.sl len cs) v:=by grind [Ab]
theorem nM {cs:List C} {off:Nat} {v:Value} (hp:Al cs=true) (h: ∃ b o,v= .pointer (some ⟨b,o+off,none⟩)/\ ¬G.wr b/\b<w.heap.size/\Ai w G cs b o):Ab w G (.aaq cs off) v:=by grind [Ab]
include hG in
theorem KT: ∀ (n:Nat) (t:TypeId),ya P n t=true->lw enc P w spare G n t
 | 0,t,h=>by simp [ya]at h
 | n+1,t,h=>by
   intro fuel vs x hx hw;unfold ya at h;unfold AM;split at h
   ·rename_i ht;obtain⟨b,rfl,rfl⟩:=DataW.trod_bool ht hx;exact⟨[.bool b],by simp [Ae,Ab],by grind,by grind⟩
   ·rename_i k ht;obtain⟨z,rfl,rfl,hwf⟩:=DataW.trod_int ht hx;exact⟨[.int k z],by simp [Ae,Ab],by grind,by grind⟩
   ·rename_i ht;obtain⟨s,rfl,rfl,hs⟩:=DataW.trod_string ht hx;simp only [DataW.weights,all_cons,List.all_nil,Bool.and_true,decide_eq_true_eq]at hw;exact⟨[.str s.data.toList],by simp [Ae,Ab],by grind,by grind⟩
   ·rename_i e ht;simp only [and_eq_true,decide_eq_true_eq,beq_iff_eq]at h;rcases DataW.trod_slice ht hx with ⟨rfl,rfl⟩ | ⟨a,len,cap,elems,rest,m,rfl,rfl,rfl,_,hle,ajn,hlen,hel,_,_⟩
    ·refine⟨[.sl 0 []],?_,?_,by grind⟩
     ·exact TR (ly rfl (by grind))
     ·exact⟨[],rfl,by simp,by simp⟩
    ·simp only [DataW.weights,ht,all_cons,all_append,and_eq_true,decide_eq_true_eq,List.length_map]at hw;obtain⟨B2,k2,k3,k4⟩:=TQ h.1.2 (KT n e h.2) len 0 m a elems hlen (by grind) hw.2.1;refine⟨[.sl B2.length B2.flatten],?_,?_,by grind⟩
     ·refine TR (ly (Fj (fun ds hd=>Jt (k3 ds hd))) ⟨some a,cap,by rw [k2],by omega,ajn,fun h0=>by rw [List.length_eq_zero_iff.1 h0];rfl,?_⟩);rw [k2];by_cases hk:0<len
      ·obtain⟨q1,q2,q3⟩:=k4 hk;exact .inr ⟨a.block,a.off,by rw [<-q2 rfl],hG _ q1,q1,q3⟩
      ·exact .inl (by omega)
     grind
   ·rename_i fs ht;simp only [and_eq_true,beq_iff_eq,all_eq_true]at h;obtain⟨⟨h1,h2⟩,h3⟩:=h;obtain⟨xs,m,rfl,rfl,hl,hx2,hf⟩:=DataW.trod_struct ht hx;simp only [DataW.weights,ht]at hw;obtain⟨B2,k1,k2⟩:=Q7 (fs:=fs.toList) (o:=0) (m:=m) (vs:=vs) (xs:=xs) (enc:=enc) (spare:=spare) (n:=n) h1 (by grind) (by grind) (fun f hf=>KT n f.type (h3 f hf))
     (by grind) hw
    grind
   ·rename_i m e ht;simp only [and_eq_true,beq_iff_eq]at h;obtain⟨xs,q,rfl,rfl,hl,hx2,hf⟩:=DataW.trod_array ht hx;simp only [DataW.weights,ht]at hw;obtain⟨B2,k1,k2,k3⟩:=TP (KT n e h.2) m 0 q vs xs (by grind) hx2 (by grind) hw;grind
   ·rename_i e ht;simp only [and_eq_true,decide_eq_true_eq,beq_iff_eq]at h;rcases DataW.trod_pointer ht hx with ⟨rfl,rfl⟩ | ⟨a,Tk,y,m,rfl,rfl,rfl,hc,hy⟩
    ·exact⟨[.aaJ],by simp [Ae,Ab],by grind,by grind⟩
    ·simp only [DataW.weights,ht]at hw;obtain⟨ds,q1,q2,q3⟩:=KT n e h.2 m Tk y hy hw;obtain⟨c1,c2,c3,c4⟩:=cS h.1.2 hc;refine⟨[.aaq ds 0],?_,by grind,by grind⟩;exact TR (nM (Jt q2) ⟨a.block,a.off,by grind,hG _ c2,c2,(by grind [PQ])⟩)
   ·rename_i ms ht;cases fuel with
    | zero=>simp [DataW.trod]at hx
    | succ fuel=>
      unfold DataW.trod at hx;rw [ht]at hx;split at hx<;>simp_all
      ·exact⟨[.K_],by simp [Ae,Ab], .inl rfl⟩
      ·exact⟨[.held],by simp [Ae,Ab], .inr rfl⟩
   ·cases h
end
end Go.PL
namespace Go.PL
open Go Go.RowKit
section
variable {P:Program} {t e:TypeId} {n:Nat} {cs:List C}
theorem iv (hu:P.underlying t=some .bool) (h:AM P n t cs): ∃ b,cs=[.bool b]/\True:=by cases n<;>simp_all [AM]
theorem nN {k:IntKind} (hu:P.underlying t=some (.int k)) (h:AM P n t cs): ∃ z,cs=[.int k z]/\(Lit.int k z).wf =true:=by cases n<;>grind [AM]
theorem nO (hu:P.underlying t=some .string) (h:AM P n t cs): ∃ s:List UInt8,cs=[.str s]/\s.length<=reachBytes:=by cases n<;>grind [AM]
theorem TS {α:Type} {R:List C->Prop} {enc:α->List C} {ok:α->Prop} (hd: ∀ ds,R ds-> ∃ x,ds=enc x/\ok x): ∀ {B2:List (List C)},(∀ ds∈B2,R ds)-> ∃ l:List α,B2=l.map enc/\ ∀ y∈l,ok y
 | [],_=>(by simp_all)
 | ds::B2,h=>by obtain⟨x,h1,h2⟩:=hd ds (h ds (by simp));obtain⟨l,h3,h4⟩:=TS hd (fun d Y_=>h d (by simp [Y_]): ∀ d∈B2,R d);refine⟨x::l,by grind,fun y hy=>?_⟩;grind
theorem qe {α:Type} {enc:α->List C} {ok:α->Prop} {b:Nat} (hu:P.underlying t=some (.slice e)) (hb:P.bytesOf e=b) (hd: ∀ n ds,AM P n e ds-> ∃ x,ds=enc x/\ok x) (h:AM P n t cs):
 ∃ l:List α,cs=[.sl l.length (l.flatMap enc)]/\l.length*b<=reachBytes/\ ∀ y∈l,ok y:=by
 cases n with
 | zero=>exact h.elim
 | succ n=>
   simp only [AM,hu]at h;obtain⟨B2,h1,h2,h3⟩:=h;obtain⟨l,rfl,h5⟩:=TS (hd n) h3;grind
theorem cT {α:Type} (f:α->C): ∀ l:List α,l.flatMap (fun x=>[f x])=l.map f
 | []=>rfl
 | a::l=>by rw [flatMap_cons,cT f l];rfl
theorem Az {fs:Array Field} {ts:List TypeId} (hu:P.underlying t=some (.struct fs)) (hts:fs.toList.map (·.type)=ts) (h:AM P n t cs): ∃ (m:Nat) (B2:List (List C)),cs=B2.flatten/\PO (AM P m) ts B2:=by cases n<;>grind [AM]
theorem XM {α:Type} {enc:α->List C} {n:Nat} (hn: ∀ x,(enc x).length =n) (l:List α) {i:Nat} (d:α) (hi:i<l.length) (j m:Nat) (hj:j+m<=n):
 ((l.flatMap enc).drop (i*n+j)).take m=((enc (l.getD i d)).drop j).take m:=by
 induction l generalizing i with
 | nil=>simp at hi
 | cons a l ih=>
   cases i with
   | zero=>
     grind
   | succ i=>
     have:=ih (i:=i) (by simpa using hi);rw [List.getD_cons_succ, <-this,flatMap_cons];have e:(i+1)*n+j=(enc a).length +(i*n+j):=by grind
     simp_all [List.drop_append,List.drop_of_length_le]
theorem qf {α:Type} {enc:α->List C} {n:Nat} (hn: ∀ x,(enc x).length =n) (l:List α) {i:Nat} (d:α) (hi:i<l.length) (j:Nat) (hj:j<n):
 (l.flatMap enc).getD (i*n+j) C.any=(enc (l.getD i d)).getD j C.any:=by
 have h:=XM hn l d hi j 1 (by omega);have e: ∀ (m:List C) (k:Nat),m.getD k C.any=((m.drop k).take 1).getD 0 C.any:=by grind
 grind
theorem DI {α:Type} {enc:α->List C} {n:Nat} (hn: ∀ x,(enc x).length =n): ∀ l:List α,(l.flatMap enc).length =l.length*n
 | []=>by simp
 | a::l=>by rw [flatMap_cons,List.length_append,hn,DI hn l,List.length_cons,Nat.add_mul];omega
end
end Go.PL
namespace Go.PL
open Go Go.RowKit
def A0:List Prop->Prop
 | []=>True
 | p::ps=>p/\A0 ps
theorem Af: ∀ {a b:List Prop},A0 (a++b)↔A0 a/\A0 b
 | [],b=>by simp [A0]
 | p::a,b=>by simp_all [A0,Af,and_assoc]
abbrev CV:=Option (List Prop×V)
def SB {α:Type} (b:Bool) (r:α):Option α:=match b with
 | true=>some r
 | false=>none
theorem Bf {α:Type} {b:Bool} {r x:α} (h:SB b r=some x):b=true/\r=x:=by cases b<;>simp [SB]at h;grind
def AK (st:St) (g:Bool) (x:Operand):List Prop×V:=
 match st.ev x with
 | .g c v=>([g=true->c=true],v)
 | v=>([],v)
theorem LZ {st:St} {g:Bool} {x:Operand} (hl:A0 (AK st g x).1):(st.arg g x).1/\(st.arg g x).2=(AK st g x).2:=by
 unfold AK at *;unfold St.arg;generalize st.ev x=e at *;cases e with
 | g c v=>exact⟨hl.1,rfl⟩
 | c _=>grind
 | agg _=>grind
 | tup _=>grind
 | undef=>grind
def Fv (st:St) (g:Bool):List Operand->List Prop×List V
 | []=>([],[])
 | x::xs=>((AK st g x).1++(Fv st g xs).1,(AK st g x).2::(Fv st g xs).2)
theorem N3 {st:St} {g:Bool}: ∀ {xs:List Operand},A0 (Fv st g xs).1->(st.args g xs).1/\(st.args g xs).2=(Fv st g xs).2
 | [],_=>⟨trivial,rfl⟩
 | x::xs,hl=>by obtain⟨h1,h2⟩:=Af.1 hl;have a:=LZ (st:=st) (g:=g) (x:=x) h1;have b:=N3 (st:=st) (g:=g) (xs:=xs) h2;simp only [St.args,Fv];exact⟨⟨a.1,b.1⟩,by rw [a.2,b.2]⟩
def ZG:V->Option (Option Bool×Bool)
 | .c (.bool q)=>some (none,q)
 | .g c (.c (.bool q))=>some (some c,q)
 | _=>none
def qg (p:Prop):Option Bool->List Prop
 | none=>[]
 | some c=>[p->c=true]
theorem Q8 {v:V} {c:Option Bool} {q:Bool} (h:ZG v=some (c,q)):M2 v=some (c.getD true,q):=by
 unfold ZG at h;split at h<;>simp at h
 ·obtain⟨rfl,rfl⟩:=h;rfl
 ·obtain⟨rfl,rfl⟩:=h;rfl
theorem TT {p:Prop} {c:Option Bool} (h:A0 (qg p c)):p->c.getD true=true:=by
 cases c with
 | none=>intro _;rfl
 | some c=>exact h.1
def yb (l:List Prop) (p:Bool) (a b:V):CV:=
 match ZG a,ZG b with
 | some (ca,q),some (cb,r)=>some (l++(qg (p=true) ca++qg (p=false) cb), .c (.bool (if p then q else r)))
 | _,_=>none
def lA (P:Program) (t:TypeId) (st:St) (l:List Prop):V->CV
 | .c (.ptr id off)=>match FW P t,st.aaP id with
   | some (ag,n),some e=>SB (Nat.ble (off+n) e.cs.length&&(ag||Nat.blt 0 n)) (l,toV ag off n e.cs)
   | _,_=>none
 | .c (.aaq cs off)=>match FW P t with
   | some (ag,n)=>SB (Nat.ble (off+n) cs.length&&(ag||Nat.blt 0 n)) (l,toV ag off n cs)
   | _=>none
 | _=>none
theorem Q9 {P:Program} {t:TypeId} {st:St} {l l':List Prop} {x v:V} (h:lA P t st l x=some (l',v)):l=l'/\(CM P t st x).1/\(CM P t st x).2=v:=by
 unfold lA at h;unfold CM;split at h
 ·split at h
  ·rename_i ag n e h1 h2;obtain⟨hb,hr⟩:=Bf h;simp_all
  ·cases h
 ·split at h
  ·rename_i ag n h1;obtain⟨hb,hr⟩:=Bf h;simp_all
  ·cases h
 ·cases h
def qh (P:Program) (t:TypeId) (st:St) (l:List Prop) (u:V):V->CV
 | .c (.ptr id off)=>match FW P t,st.aaP id with
   | some (ag,n),some e=>SB (ag||Nat.blt 0 n) (l++[off+n<=e.cs.length/\toV ag off n e.cs=u],u)
   | _,_=>none
 | .c (.aaq cs off)=>match FW P t with
   | some (ag,n)=>SB (ag||Nat.blt 0 n) (l++[off+n<=cs.length/\toV ag off n cs=u],u)
   | _=>none
 | _=>none
theorem cU {P:Program} {t:TypeId} {st:St} {l l':List Prop} {x u v:V} (h:qh P t st l u x=some (l',v)) (hl:A0 l'):A0 l/\(CM P t st x).1/\(CM P t st x).2=v:=by
 unfold qh at h;unfold CM;split at h
 ·split at h
  ·rename_i ag n e h1 h2;obtain⟨hb,hr⟩:=Bf h;simp only [injEq]at hr;obtain⟨rfl,rfl⟩:=hr;obtain⟨q1,q2,_⟩:=Af.1 hl;simp_all
  ·cases h
 ·split at h
  ·rename_i ag n h1;obtain⟨hb,hr⟩:=Bf h;simp only [injEq]at hr;obtain⟨rfl,rfl⟩:=hr;obtain⟨q1,q2,_⟩:=Af.1 hl;simp_all
  ·cases h
 ·cases h
def kEq:BinOp->IntKind->IntKind->Bool
 | .shl,_,_ | .shr,_,_=>true
 | _,k,k'=>k==k'
theorem TU {op:BinOp} {k k':IntKind} (h:kEq op k k'=true):IL op k k':=by unfold kEq at h;grind [IL]
def y8 (op:BinOp) (b:Int):List Prop:=
 match op with
 | .quo | .rem =>[b ≠ 0]
 | .shl | .shr =>[0<=b]
 | _=>[]
theorem nP {op:BinOp} {k:IntKind} {a b:Int} (h:A0 (y8 op b)):(Fp op k a b).1:=by cases op<;>simp_all [y8,Fp,A0]
def y9 (op:BinOp) (a b:List UInt8):Option (List Prop):=
 match op with
 | .add =>some [a.length+b.length<=maxLen]
 | .eql | .neq | .lss | .leq | .gtr | .geq =>some []
 | _=>none
theorem nQ {op:BinOp} {a b:List UInt8} {l:List Prop} (h:y9 op a b=some l) (hl:A0 l):(FX op a b).1:=by cases op<;>simp_all [y9,FX]<;>(subst h;exact hl.1)
def za (P:Program) (op:BinOp) (t:TypeId) (kc:Bool) (l:List Prop):V->V->CV
 | .c (.int k a), .c (.int k' b)=>SB (kEq op k k') (l++y8 op b, .c (Fp op k a b).2)
 | .c (.str a), .c (.str b)=>match y9 op a b with
   | some c=>some (l++c, .c (FX op a b).2)
   | none=>none
 | .agg cs, .agg ds=>match op with
   | .eql =>SB (cM P t cs ds) (l, .c (.bool (Bo cs ds)))
   | .neq =>SB (cM P t cs ds) (l, .c (.bool !(Bo cs ds)))
   | _=>none
 | x,y=>some (l++[(R6 P op t kc x y).1],(R6 P op t kc x y).2)
def Ju (P:Program) (op:BinOp) (t:TypeId) (k:Bool) (x y:V):Prop×V:=
 match x,y with
 | .agg cs, .agg ds=>WQ P op t cs ds
 | x,y=>R6 P op t k x y
theorem iw {P:Program} {op:BinOp} {t:TypeId} {kc:Bool} {l l':List Prop} {x y v:V} (h:za P op t kc l x y=some (l',v)) (hl:A0 l'):A0 l/\(Ju P op t kc x y).1/\(Ju P op t kc x y).2=v:=by
 unfold za at h;split at h
 ·obtain⟨hb,hr⟩:=Bf h;simp only [injEq]at hr;obtain⟨rfl,rfl⟩:=hr;obtain⟨q1,q2⟩:=Af.1 hl;exact⟨q1,⟨TU hb,nP q2⟩,rfl⟩
 ·split at h
  ·rename_i c hc;simp only [Option.some.injEq,injEq]at h;obtain⟨rfl,rfl⟩:=h;obtain⟨q1,q2⟩:=Af.1 hl;exact⟨q1,nQ hc q2,rfl⟩
  ·cases h
 ·split at h
  ·obtain⟨hb,hr⟩:=Bf h;simp only [injEq]at hr;exact⟨hr.1▸hl,hb,hr.2⟩
  ·obtain⟨hb,hr⟩:=Bf h;simp only [injEq]at hr;exact⟨hr.1▸hl,hb,hr.2⟩
  ·cases h
 ·rename_i n_;simp only [Option.some.injEq,injEq]at h;obtain⟨rfl,rfl⟩:=h;obtain⟨q1,q2⟩:=Af.1 hl;have e:Ju P op t kc x y=R6 P op t kc x y:=by grind [Ju]
  rw [e];exact⟨q1,q2.1,rfl⟩
def zb (P:Program) (t:TypeId) (st:St) (l:List Prop) (x y:V):CV:=
 match y with
 | .c (.int _ i)=>match x with
   | .c (.sl len cs)=>match Ck P t with
     | some (_,n)=>some (l++[0<=i/\i<len], .c (.aaq cs (i.toNat*n)))
     | none=>none
   | .c (.l_ id)=>match Ck P t,st.aaP id with
     | some (_,n),some e=>match e.row with
       | some (_,_,len)=>some (l++[0<=i/\i<len], .c (.ptr id (i.toNat*n)))
       | none=>none
     | _,_=>none
   | .c (.bsl id off len)=>match Ck P t with
     | some (_,n)=>some (l++[0<=i/\i<len], .c (.ptr id (off+i.toNat*n)))
     | none=>none
   | .c (.ptr id off)=>match C6 P t with
     | some (k,_,n)=>some (l++[0<=i/\i<k], .c (.ptr id (off+i.toNat*n)))
     | none=>none
   | .c (.aaq cs off)=>match C6 P t with
     | some (k,_,n)=>some (l++[0<=i/\i<k], .c (.aaq cs (off+i.toNat*n)))
     | none=>none
   | _=>none
 | _=>none
theorem iy {P:Program} {t:TypeId} {st:St} {l l':List Prop} {x y v:V} (h:zb P t st l x y=some (l',v)) (hl:A0 l'):A0 l/\(Bz P t st x y).1/\(Bz P t st x y).2=v:=by
 unfold zb at h;unfold Bz;split at h
 ·split at h
  ·split at h
   ·rename_i h1;simp only [Option.some.injEq,injEq]at h;obtain⟨rfl,rfl⟩:=h;obtain⟨q1,q2,_⟩:=Af.1 hl;grind
   ·cases h
  ·split at h
   ·rename_i h1 h2;split at h
    ·rename_i h3;simp only [Option.some.injEq,injEq]at h;obtain⟨rfl,rfl⟩:=h;obtain⟨q1,q2,_⟩:=Af.1 hl;grind
    ·cases h
   ·cases h
  ·split at h
   ·rename_i h1;simp only [Option.some.injEq,injEq]at h;obtain⟨rfl,rfl⟩:=h;obtain⟨q1,q2,_⟩:=Af.1 hl;grind
   ·cases h
  ·split at h
   ·rename_i h1;simp only [Option.some.injEq,injEq]at h;obtain⟨rfl,rfl⟩:=h;obtain⟨q1,q2,_⟩:=Af.1 hl;grind
   ·cases h
  ·split at h
   ·rename_i h1;simp only [Option.some.injEq,injEq]at h;obtain⟨rfl,rfl⟩:=h;obtain⟨q1,q2,_⟩:=Af.1 hl;grind
   ·cases h
  ·cases h
 ·cases h
def zc (P:Program) (t:TypeId) (l:List Prop) (x:V) (lo hi:Option V):CV:=
 match x with
 | .c (.str s)=>match WN s.length lo hi with
   | some (a,h)=>SB (Cb P t) (l++[0<=a/\a<=h/\h<=s.length], .c (.str ((s.drop a.toNat).take (h.toNat - a.toNat))))
   | none=>none
 | .c (.sl len cs)=>match Ck P t,WN len lo hi with
   | some (_,n),some (a,h)=>some (l++[0<=a/\a<=h/\h<=len,cs.length=len*n], .c (.sl (h.toNat - a.toNat) ((cs.drop (a.toNat*n)).take ((h.toNat - a.toNat)*n))))
   | _,_=>none
 | .c (.ptr id off)=>match C6 P t with
   | some (k,_,n)=>match WN k lo hi with
     | some (a,h)=>some (l++[0<=a/\a<k/\a<=h/\h<=k], .c (.bsl id (off+a.toNat*n) (h.toNat - a.toNat)))
     | none=>none
   | none=>none
 | _=>none
theorem iz {P:Program} {t:TypeId} {l l':List Prop} {x v:V} {lo hi:Option V} (h:zc P t l x lo hi=some (l',v)) (hl:A0 l'):A0 l/\(EM P t x lo hi).1/\(EM P t x lo hi).2=v:=by
 unfold zc at h;unfold EM;split at h
 ·split at h
  ·rename_i a hh h1;obtain⟨hb,hr⟩:=Bf h;simp only [injEq]at hr;obtain⟨rfl,rfl⟩:=hr;obtain⟨q1,q2,_⟩:=Af.1 hl;grind
  ·cases h
 ·split at h
  ·rename_i h1 h2;simp only [Option.some.injEq,injEq]at h;obtain⟨rfl,rfl⟩:=h;obtain⟨q1,q2,q3,_⟩:=Af.1 hl;grind
  ·cases h
 ·split at h
  ·rename_i h1;split at h
   ·rename_i h2;simp only [Option.some.injEq,injEq]at h;obtain⟨rfl,rfl⟩:=h;obtain⟨q1,q2,_⟩:=Af.1 hl;grind
   ·cases h
  ·cases h
 ·cases h
def ZH (st:St) (g:Bool):Option Operand->List Prop×Option V
 | none=>([],none)
 | some x=>((AK st g x).1,some (AK st g x).2)
theorem u7 {st:St} {g:Bool}: ∀ {x:Option Operand},A0 (ZH st g x).1->(Cg st g x).1/\(Cg st g x).2=(ZH st g x).2
 | none,_=>⟨trivial,rfl⟩
 | some x,hl=>by grind [LZ,Cg,ZH]
def zd (P:Program) (s:TypeId) (f:Nat) (l:List Prop):V->CV
 | .c (.ptr id off)=>match nm P s f with
   | some (o,_,n)=>SB (Nat.blt 0 n) (l, .c (.ptr id (off+o)))
   | none=>none
 | .c (.aaq cs off)=>match nm P s f with
   | some (o,_,n)=>SB (Nat.blt 0 n) (l, .c (.aaq cs (off+o)))
   | none=>none
 | _=>none
theorem iA {P:Program} {s:TypeId} {f:Nat} {l l':List Prop} {x v:V} (h:zd P s f l x=some (l',v)):l=l'/\(Bq P s f x).1/\(Bq P s f x).2=v:=by
 unfold zd at h;unfold Bq;split at h
 ·split at h
  ·rename_i h1;obtain⟨hb,hr⟩:=Bf h;simp_all
  ·cases h
 ·split at h
  ·rename_i h1;obtain⟨hb,hr⟩:=Bf h;simp_all
  ·cases h
 ·cases h
def iB (P:Program) (t:TypeId) (f:Nat) (l:List Prop):V->CV
 | .agg cs=>match nm P t f with
   | some (o,ag,n)=>SB (Nat.ble (o+n) cs.length&&(ag||Nat.blt 0 n)) (l,toV ag o n cs)
   | none=>none
 | _=>none
theorem ZI {P:Program} {s:TypeId} {f:Nat} {l l':List Prop} {x v:V} (h:iB P s f l x=some (l',v)):l=l'/\(GN P s f x).1/\(GN P s f x).2=v:=by
 unfold iB at h;unfold GN;split at h
 ·split at h
  ·rename_i h1;obtain⟨hb,hr⟩:=Bf h;simp_all
  ·cases h
 ·cases h
def qj (P:Program) (t:TypeId) (l:List Prop) (x y:V) (u:Option V):CV:=
 match y with
 | .c (.int _ i)=>match x with
   | .c (.str s)=>SB (Cb P t) (l++[0<=i/\i<s.length], .c (.int .u8 (s.getD i.toNat 0).toNat))
   | .agg cs=>match C6 P t with
     | some (k,e,n)=>match FW P e,u with
       | some (ag,_),some u=>SB (Nat.blt 0 n) (l++[(0<=i/\i<k)/\i.toNat*n+n<=cs.length/\toV ag (i.toNat*n) n cs=u],u)
       | _,_=>none
     | none=>none
   | _=>none
 | _=>none
theorem cV {P:Program} {t:TypeId} {l l':List Prop} {x y v:V} {u:Option V} (h:qj P t l x y u=some (l',v)) (hl:A0 l'):A0 l/\(FQ P t x y).1/\(FQ P t x y).2=v:=by
 unfold qj at h;unfold FQ;split at h
 ·split at h
  ·obtain⟨hb,hr⟩:=Bf h;simp only [injEq]at hr;obtain⟨rfl,rfl⟩:=hr;obtain⟨q1,q2,_⟩:=Af.1 hl;grind
  ·split at h
   ·rename_i h1;split at h
    ·rename_i h2;obtain⟨hb,hr⟩:=Bf h;simp only [injEq]at hr;obtain⟨rfl,rfl⟩:=hr;obtain⟨q1,q2,_⟩:=Af.1 hl;simp_all
    ·cases h
   ·cases h
  ·cases h
 ·cases h
def unC (op:UnOp) (l:List Prop):V->CV
 | .c (.int k n)=>match op with
   | .neg =>some (l, .c (.int k (k.wrap (0 - n))))
   | .xor =>some (l, .c (.int k (Zq k (if k.signed then -1 else k.max) n)))
   | _=>none
 | .c (.bool b)=>match op with
   | .not =>some (l, .c (.bool !b))
   | _=>none
 | _=>none
theorem nR {op:UnOp} {l l':List Prop} {x v:V} (h:unC op l x=some (l',v)):l=l'/\(uQ op x).1/\(uQ op x).2=v:=by unfold unC at h;grind [uQ]
def qk (P:Program) (src dst:TypeId) (st:St) (l:List Prop):V->CV
 | .c (.int _ n)=>match XB P dst with
   | some k=>SB (nr P src) (l, .c (.int k (k.wrap n)))
   | none=>none
 | .c (.str s)=>SB (Cb P src&&Cb P dst) (l, .c (.str s))
 | x=>some (l++[(HO P src dst st x).1],(HO P src dst st x).2)
theorem cW {P:Program} {src dst:TypeId} {st:St} {l l':List Prop} {x v:V} (h:qk P src dst st l x=some (l',v)) (hl:A0 l'):A0 l/\(HO P src dst st x).1/\(HO P src dst st x).2=v:=by
 unfold qk at h;split at h
 ·grind [HO,Bf]
 ·grind [HO,Bf]
 ·simp only [Option.some.injEq,injEq]at h;obtain⟨rfl,rfl⟩:=h;obtain⟨q1,q2,_⟩:=Af.1 hl;grind
def ze (P:Program) (t:TypeId) (st:St) (l:List Prop):V->CV
 | .c (.str s)=>SB (Cb P t) (l, .c (.int .i64 s.length))
 | .c (.sl len _)=>SB (Cl P t) (l, .c (.int .i64 len))
 | .c (.l_ id)=>match st.aaP id with
   | some e=>match e.row with
     | some (_,_,len)=>SB (Cl P t) (l, .c (.int .i64 len))
     | none=>none
   | none=>none
 | x=>some (l++[(M0 P t st x).1],(M0 P t st x).2)
theorem iD {P:Program} {t:TypeId} {st:St} {l l':List Prop} {x v:V} (h:ze P t st l x=some (l',v)) (hl:A0 l'):A0 l/\(M0 P t st x).1/\(M0 P t st x).2=v:=by
 unfold ze at h;split at h
 ·obtain⟨hb,hr⟩:=Bf h;simp only [injEq]at hr;exact⟨hr.1▸hl,hb,hr.2⟩
 ·obtain⟨hb,hr⟩:=Bf h;simp only [injEq]at hr;exact⟨hr.1▸hl,hb,hr.2⟩
 ·grind [M0,Bf]
 ·simp only [Option.some.injEq,injEq]at h;obtain⟨rfl,rfl⟩:=h;obtain⟨q1,q2,_⟩:=Af.1 hl;grind
def u9 (P:Program) (st:St) (g:Bool) (op:Op):Option V->CV
 | none=>some ([(CT P st g op).1],(CT P st g op).2)
 | some u=>some ([(CT P st g op).1/\(CT P st g op).2=u],u)
theorem M8 {P:Program} {st:St} {g:Bool} {u:Option V} {op:Op} {l:List Prop} {v:V} (h:u9 P st g op u=some (l,v)) (hl:A0 l):(CT P st g op).1/\(CT P st g op).2=v:=by
 cases u<;>simp only [u9,Option.some.injEq,injEq]at h<;>obtain⟨rfl,rfl⟩:=h
 ·exact⟨hl.1,rfl⟩
 ·exact hl.1
def op1 (P:Program) (st:St) (g:Bool) (u:Option V):Op->CV
 | .move x=>some (AK st g x)
 | .assign x=>some (AK st g x)
 | .pick c a b=>match (AK st g c).2 with
   | .c (.bool p)=>yb (AK st g c).1 p (st.ev a) (st.ev b)
   | _=>none
 | .load t x=>match u with
   | none=>lA P t st (AK st g x).1 (AK st g x).2
   | some u=>qh P t st (AK st g x).1 u (AK st g x).2
 | .binOp op t x y _=>za P op t (AU x||AU y) ((AK st g x).1++(AK st g y).1) (AK st g x).2 (AK st g y).2
 | .unOp op _ x=>unC op (AK st g x).1 (AK st g x).2
 | .convert src dst x=>qk P src dst st (AK st g x).1 (AK st g x).2
 | .slice t x lo hi none=>zc P t ((AK st g x).1++((ZH st g lo).1++(ZH st g hi).1)) (AK st g x).2 (ZH st g lo).2 (ZH st g hi).2
 | .fieldAddr s x f=>zd P s f (AK st g x).1 (AK st g x).2
 | .field t x f=>iB P t f (AK st g x).1 (AK st g x).2
 | .indexAddr t x i=>zb P t st ((AK st g x).1++(AK st g i).1) (AK st g x).2 (AK st g i).2
 | .index t x i=>qj P t ((AK st g x).1++(AK st g i).1) (AK st g x).2 (AK st g i).2 u
 | .call c=>match c.callee,c.args.toList,c.argTypes.toList with
   | .builtin .len,[x],[t]=>ze P t st (AK st g x).1 (AK st g x).2
   | _,_,_=>u9 P st g (.call c) none
 | op=>u9 P st g op u
theorem XN {P:Program} {st:St} {g:Bool} {u:Option V} {op:Op} {l:List Prop} {v:V} (h:op1 P st g u op=some (l,v)) (hl:A0 l):(CT P st g op).1/\(CT P st g op).2=v:=by
 have A: ∀ x,A0 (AK st g x).1->(st.arg g x).1/\(st.arg g x).2=(AK st g x).2:=fun x hx=>LZ hx;have O: ∀ x,A0 (ZH st g x).1->(Cg st g x).1/\(Cg st g x).2=(ZH st g x).2:=fun x hx=>u7 hx;cases op<;>simp only [op1]at h<;>try exact M8 h hl
 case move x=>
  grind [CT,rd]
 case assign x=>
  grind [CT,rd]
 case pick c a b=>
  split at h
  ·rename_i p hp;unfold yb at h;split at h
   ·rename_i ca q cb r h1 h2;simp only [Option.some.injEq,injEq]at h;obtain⟨rfl,rfl⟩:=h;obtain⟨q1,q2⟩:=Af.1 hl;obtain⟨q2,q3⟩:=Af.1 q2;obtain⟨k1,k2⟩:=A c q1;rw [hp]at k2;simp only [CT,rd,y_,k2,S7,Q8 h1,Q8 h2];exact⟨⟨k1,TT q2,TT q3⟩,trivial⟩
   ·cases h
  ·cases h
 case load t x=>
  split at h
  ·have:=Q9 h;grind [CT,rd,y_]
  ·have:=cU h hl;grind [CT,rd,y_]
 case binOp op t x y ty=>
  have:=iw h hl;obtain⟨q1,q2⟩:=Af.1 this.1;obtain⟨k1,k2⟩:=A x q1;obtain⟨k3,k4⟩:=A y q2;have e:CT P st g (.binOp op t x y ty)=((st.arg g x).1/\(st.arg g y).1/\(Ju P op t (AU x||AU y) (st.arg g x).2 (st.arg g y).2).1,(Ju P op t (AU x||AU y) (st.arg g x).2 (st.arg g y).2).2):=by
   simp only [CT];unfold Ju;split
   ·grind
   ·rename_i n_;split
    ·grind
    ·rfl
  grind
 case unOp op t x=>
  have:=nR h;grind [CT,rd,y_]
 case convert s d x=>
  have:=cW h hl;grind [CT,rd,y_]
 case slice t x lo hi mx=>
  cases mx with
  | some m=>exact M8 h hl
  | none=>
    have:=iz h hl;grind [Af,CT,rd,y_]
 case fieldAddr s x f=>
  have:=iA h;grind [CT,rd,y_]
 case field s x f=>
  have:=ZI h;grind [CT,rd,y_]
 case indexAddr t x y=>
  have:=iy h hl;grind [Af,CT,rd,y_]
 case index t x y=>
  have:=cV h hl;grind [Af,CT,rd,y_]
 case call c=>
  split at h
  ·rename_i x t h1 h2 h3;have:=iD h hl;grind [CT,rd,M3,y_]
  ·exact M8 h hl
def yc (P:Program) (st:St) (g:Bool) (u:Option V) (op:Op):CV:=
 match u with
 | none=>op1 P st g none op
 | some u=>match op1 P st g (some u) op with
   | some (l,v)=>some (l++[v=u],u)
   | none=>none
theorem L2 {P:Program} {st:St} {g:Bool} {u:Option V} {op:Op} {l:List Prop} {v:V} (h:yc P st g u op=some (l,v)) (hl:A0 l):(CT P st g op).1/\(CT P st g op).2=v:=by
 cases u with
 | none=>grind [yc,XN]
 | some u=>
   simp only [yc]at h;split at h
   ·rename_i l1 v1 h1;simp only [Option.some.injEq,injEq]at h;obtain⟨rfl,rfl⟩:=h;obtain⟨q1,q2,_⟩:=Af.1 hl;grind [XN]
   ·cases h
end Go.PL
namespace Go.PL
open Go Go.RowKit
mutual
def C.c_ (p:Ad->Bool):C->Bool
 | .l_ i=>p i
 | .ptr i _=>p i
 | .bsl i _ _=>p i
 | .rsl i _ _ _=>p i
 | .bld i _=>p i
 | .acA i=>p i
 | .clo _ cs=>BX p cs
 | .bmv _ cs=>BX p cs
 | _=>false
def BX (p:Ad->Bool):List C->Bool
 | []=>false
 | c::cs=>c.c_ p||BX p cs
end
mutual
def V.c_ (p:Ad->Bool):V->Bool
 | .c x=>x.c_ p
 | .agg cs=>BX p cs
 | .tup vs=>KW p vs
 | .g _ v=>v.c_ p
 | .undef =>false
def KW (p:Ad->Bool):List V->Bool
 | []=>false
 | v::vs=>v.c_ p||KW p vs
end
def BJ (p:Ad->Bool) (c:C):C:=if c.c_ p then .any else c
def A9 (p:Ad->Bool) (v:V):V:=if v.c_ p then .undef else v
def Ar.a_ (p:Ad->Bool) (e:Ar):Ar:=match e with
 | ⟨i,r,cs,true⟩=>⟨i,r,cs,true⟩
 | ⟨i,r,cs,false⟩=>⟨i,r,cs.map (BJ p),false⟩
theorem Ar.j_ (p:Ad->Bool) (e:Ar):(e.a_ p).id =e.id:=by obtain⟨i,r,cs,_ | _⟩:=e<;>rfl
theorem Ar.acD (p:Ad->Bool) (e:Ar):(e.a_ p).pu =e.pu:=by obtain⟨i,r,cs,_ | _⟩:=e<;>rfl
mutual
theorem iE (p:Ad->Bool) (i:Ad): ∀ c:C,c.c_ p=false->c.g_ i=true->p i=false
 | .l_ _,h,k=>by simp_all [C.c_,C.g_]
 | .ptr _ _,h,k=>by simp_all [C.c_,C.g_]
 | .rsl _ _ _ _,h,k=>by simp_all [C.c_,C.g_]
 | .bsl _ _ _,h,k=>by simp_all [C.c_,C.g_]
 | .bld _ _,h,k=>by simp_all [C.c_,C.g_]
 | .acA _,h,k=>by simp_all [C.c_,C.g_]
 | .clo _ cs,h,k=>TV p i cs (by simpa only [C.c_] using h) (by simpa only [C.g_] using k)
 | .bmv _ cs,h,k=>TV p i cs (by simpa only [C.c_] using h) (by simpa only [C.g_] using k)
 | .int ..,_,k=>by simp [C.g_]at k
 | .bool _,_,k=>by simp [C.g_]at k
 | .str _,_,k=>by simp [C.g_]at k
 | .sl ..,_,k=>by simp [C.g_]at k
 | .aaq ..,_,k=>by simp [C.g_]at k
 | .aaJ,_,k=>by simp [C.g_]at k
 | .K_,_,k=>by simp [C.g_]at k
 | .P_,_,k=>by simp [C.g_]at k
 | .fn _,_,k=>by simp [C.g_]at k
 | .held,_,k=>by simp [C.g_]at k
 | .any,_,k=>by simp [C.g_]at k
 | .acE ..,_,k=>by simp [C.g_]at k
 | .mp _,_,k=>by simp [C.g_]at k
 | .isl ..,_,k=>by simp [C.g_]at k
theorem TV (p:Ad->Bool) (i:Ad): ∀ cs:List C,BX p cs=false->Bm i cs=true->p i=false
 | [],_,k=>by simp [Bm]at k
 | c::cs,h,k=>by
   simp only [BX,or_eq_false_iff]at h;simp only [Bm,or_eq_true]at k;rcases k with k | k
   ·exact iE p i c h.1 k
   ·exact TV p i cs h.2 k
end
mutual
theorem ZJ (p:Ad->Bool) (i:Ad): ∀ v:V,v.c_ p=false->v.g_ i=true->p i=false
 | .c x,h,k=>(by grind [iE,V.c_,V.g_])
 | .agg cs,h,k=>(by grind [TV,V.c_,V.g_])
 | .tup vs,h,k=>lB p i vs (by simpa only [V.c_] using h) (by simpa only [V.g_] using k)
 | .g b v,h,k=>by simp only [V.g_,and_eq_true]at k;exact ZJ p i v (by simpa only [V.c_] using h) k.1
 | .undef,_,k=>by simp [V.g_]at k
theorem lB (p:Ad->Bool) (i:Ad): ∀ vs:List V,KW p vs=false->Ij i vs=true->p i=false
 | [],_,k=>by simp [Ij]at k
 | v::vs,h,k=>by
   simp only [KW,or_eq_false_iff]at h;simp only [Ij,or_eq_true]at k;rcases k with k | k
   ·exact ZJ p i v h.1 k
   ·exact lB p i vs h.2 k
end
theorem TW {p:Ad->Bool} {i:Ad} {c:C} (h:(BJ p c).g_ i=true):p i=false:=by grind [BJ,C.g_,iE]
theorem TX {p:Ad->Bool} {i:Ad}: ∀ {cs:List C},Bm i (cs.map (BJ p))=true->p i=false
 | [],h=>by simp [Bm]at h
 | c::cs,h=>by
   simp only [map_cons,Bm,or_eq_true]at h;rcases h with h | h
   ·exact TW h
   ·exact TX h
theorem GY {p:Ad->Bool} {i:Ad} {v:V} (h:(A9 p v).g_ i=true):p i=false:=by grind [A9,V.g_,ZJ]
theorem Ra {p:Ad->Bool} {i:Ad}: ∀ {vs:List V},Ij i (vs.map (A9 p))=true->p i=false
 | [],h=>by simp [Ij]at h
 | v::vs,h=>by
   simp only [map_cons,Ij,or_eq_true]at h;rcases h with h | h
   ·exact GY h
   ·exact Ra h
theorem TY {w:World} {G:Ax} {p:Ad->Bool} {c:C} {v:Value} (h:Ab w G c v):Ab w G (BJ p c) v:=by
 unfold BJ;split
 ·simp only [Ab];exact h.one
 ·exact h
theorem Jv {w:World} {G:Ax} {p:Ad->Bool}: ∀ {cs:List C} {b o:Nat},Ai w G cs b o->Ai w G (cs.map (BJ p)) b o
 | [],_,_,_=>by grind
 | c::cs,b,o,h=>by simp only [Ai,map_cons]at h ⊢;exact⟨h.1.imp fun v q=>⟨q.1,TY q.2⟩,Jv h.2⟩
theorem GZ {w:World} {G:Ax} {p:Ad->Bool} {x:V} {v:Value} (h:Aa w G x v):Aa w G (A9 p x) v:=by grind [A9,Aa]
theorem Rb {w:World} {G:Ax} {p:Ad->Bool}: ∀ {xs:List V} {vs:List Value},Ao w G xs vs->Ao w G (xs.map (A9 p)) vs
 | [],vs,h=>by grind
 | x::xs,vs,h=>by simp only [Ao,map_cons]at h ⊢;obtain⟨v,r,e,h1,h2⟩:=h;exact⟨v,r,e,GZ h1,Rb h2⟩
theorem ql {p:Ad->Bool} {kv:List (Int×Int)}:[C.mp kv].map (BJ p)=[C.mp kv]:=by simp [BJ,C.c_]
theorem iF {w:World} {G:Ax} {p:Ad->Bool} {e:Ar} (h:AN w G e):AN w G (e.a_ p):=by
 obtain⟨i,r,cs,pu⟩:=e;cases pu with
 | true=>exact h
 | false=>
 unfold AN at *;cases r with
 | none=>
   obtain⟨b,h1,h2⟩:=h;refine⟨b,h1,?_⟩;rcases h2 with ⟨kv,es,h2,h3⟩ | ⟨T,cur,h2,h3,h4⟩
   ·dsimp only [Ar.a_]at h2 ⊢;rw [h2,ql];exact .inl ⟨kv,es,rfl,h3⟩
   ·exact .inr ⟨T,cur,h2,by simpa [Ar.a_] using h3,Jv h4⟩
 | some q=>
   obtain⟨E,n,len⟩:=q;obtain⟨hl,v,h1,h2⟩:=h;refine⟨by grind [Ar.a_],v,h1,?_⟩;rcases h2 with h2 | ⟨b,cap,cur,e1,e2,e3,e4,e5,e6,e7⟩
   ·exact .inl h2
   ·exact .inr ⟨b,cap,cur,e1,e2,e3,e4,e5,e6,Jv e7⟩
theorem qm {p:Ad->Bool} {i:Ad} {e:Ar} (hp:e.pu=true->Al e.cs=true) (h:Bm i (e.a_ p).cs =true):p i=false:=by
 obtain⟨j,r,cs,pu⟩:=e;cases pu with
 | true=>rw [show (Ar.a_ p ⟨j,r,cs,true⟩).cs =cs from rfl,AL i cs (hp rfl)]at h;cases h
 | false=>exact TX (cs:=cs) h
theorem A8.a_ {w:World} {G:Ax} {p:Ad->Bool} {e:Ar} (h:A8 w G e):A8 w G (e.a_ p):=by
 obtain⟨i,r,cs,pu⟩:=e;cases pu with
 | true=>exact h
 | false=>exact⟨h.1,fun hd=>absurd (h.2 hd).1 (by simp)⟩
theorem M9 {p:Ad->Bool} {e:Ar} (h:e.pu=true->Al e.cs=true):(e.a_ p).pu =true->Al (e.a_ p).cs =true:=by
 obtain⟨i,r,cs,pu⟩:=e;cases pu with
 | true=>exact h
 | false=>intro hq;cases hq
theorem qn (cs:List C):BX (fun _=>false) cs=false:=by
 have key: ∀ c:C,c.c_ (fun _=>false)=false:=by intro c;induction c using C.rec (motive_2:=fun cs=>BX (fun _=>false) cs=false)<;>simp_all [C.c_,BX]
 induction cs<;>grind [BX]
theorem vd (c:C):c.c_ (fun _=>false)=false:=by have:=qn [c];simpa [BX] using this
theorem XO: ∀ cs:List C,cs.map (BJ (fun _=>false))=cs
 | []=>rfl
 | c::cs=>by rw [map_cons,XO cs,BJ,if_neg (by simp [vd])]
theorem Ar.agJ (e:Ar):e.a_ (fun _=>false)=e:=by
 obtain⟨i,r,cs,_ | _⟩:=e
 all_goals grind [Ar.a_,XO]
structure aaL (F:Fr) (p q:Ad->Bool) (G G':Ax) (w w':World):Prop where
 agree: ∀ i,p i=false->G'.blk i=G.blk i/\G'.own i=G.own i
 same: ∀ i b,q i=false->G.blk i=some b->w'.heap[b]? =w.heap[b]?
 keeps:BE G G' w w'
 outer:DD w w'
 ext: ∀ b,b<F.w0.heap.size-> ¬F.Tc b->w'.heap[b]? =w.heap[b]?
 wr: ∀ b,G'.wr b↔F.av b\/ ∃ i,G'.blk i=some b
 inj: ∀ i j b,G'.blk i=some b->G'.blk j=some b->i=j
 lt: ∀ i b,G'.blk i=some b->b<w'.heap.size
 new: ∀ i b,G'.blk i=some b->F.w0.heap.size<=b\/F.Tc b
def St.a_ (st:St) (p:Ad->Bool) (so:List Ar):St:={tm:=st.tm.map (A9 p),so:=so,gh:=st.gh.map (A9 p),pre:=st.pre}
section
variable {F:Fr} {st:St} {a:Act} {w w':World} {G G':Ax} {p q:Ad->Bool}
theorem aaL.ent (h:R F st a w G) (t:aaL F p q G G' w w') {e:Ar} (he:e∈st.so) (hp:p e.id=false) (hq:q e.id=false):AN w' G' (e.a_ p):=by
 refine BN t.keeps (fun i hi=>t.agree i (qm (h.k_ e he) hi)) ?_ ?_ (iF (h.store e he))
 ·rw [Ar.j_];exact t.agree _ hp
 ·intro b hb;rw [Ar.j_]at hb;exact t.same _ b hq hb
theorem aaL.deep (h:R F st a w G) (t:aaL F p q G G' w w') {e:Ar} (he:e∈st.so) (hp:p e.id=false) (hq:q e.id=false) (hm:DF e.id=true-> ∀ k,p (Bi k e.id)=false/\q (Bi k e.id)=false):A8 w' G' (e.a_ p):=by
 refine A8.mono t.keeps (by rw [Ar.j_];exact t.agree _ hp) (fun hd k=>?_) ?_ (fun hd k b hb=>?_) (h.deep e he).a_
 ·rw [Ar.j_]at hd ⊢;exact t.agree _ (hm hd k).1
 ·intro b hb;rw [Ar.j_]at hb;exact t.same _ b hq hb
 ·rw [Ar.j_]at hd hb;exact t.same _ b (hm hd k).2 hb
theorem aaL.rel (h:R F st a w G) (t:aaL F p q G G' w w') (an:St) (hl:an.tm.length=st.tm.length) (hs: ∀ i,Aa w' G' (an.tm.getD i .undef) (a.tmps.getD i Go.undef)) (hg:Ao w' G' an.gh F.gv)
 (h1: ∀ e∈an.so,AN w' G' e) (h2: ∀ e∈an.so,A8 w' G' e) (h3: ∀ e∈an.so,e.pu=true->Al e.cs=true) (h4:(an.so.map (·.id)).Nodup):R F an a w' G' where
 dfr:=h.dfr
 size:=by rw [hl];exact h.size
 slots:=hs
 t_:=hg
 store:=h1
 deep:=h2
 k_:=h3
 nodup:=h4
 inj:=t.inj
 lt:=t.lt
 new:=t.new
 wr:=t.wr
 Tu:=h.Tu
 inv:=h.inv
 Kq:=h.Kq
 os:=t.outer.os.trans h.os
 tape:=t.outer.tape.trans h.tape
 output:=t.outer.output.trans h.output
 hsize:=Nat.le_trans h.hsize t.keeps.size
 ext:=fun b hb ho=>(t.ext b hb ho).trans (h.ext b hb ho)
theorem aaL.acj (h:R F st a w G) (t:aaL F p q G G' w w') (so:List Ar)
 (h1: ∀ e∈so,AN w' G' e) (h2: ∀ e∈so,A8 w' G' e) (h3: ∀ e∈so,e.pu=true->Al e.cs=true) (h4:(so.map (·.id)).Nodup):R F (st.a_ p so) a w' G':=by
 refine t.rel h (st.a_ p so) (by simp [St.a_]) (fun i=>?_) ?_ h1 h2 h3 h4
 ·simp only [St.a_];rw [D7 (by simp [A9,V.c_])];exact Aa.mono t.keeps _ _ (fun i hi=>t.agree i (GY hi)) (GZ (h.slots i))
 ·exact Ao.mono t.keeps _ _ (fun i hi=>t.agree i (Ra hi)) (Rb h.t_)
theorem aaL.kept (h:R F st a w G) (t:aaL F (fun _=>false) q G G' w w') (so:List Ar)
 (h1: ∀ e∈so,AN w' G' e) (h2: ∀ e∈so,A8 w' G' e) (h3: ∀ e∈so,e.pu=true->Al e.cs=true) (h4:(so.map (·.id)).Nodup):R F {st with so:=so} a w' G':=
 t.rel h {st with so:=so} rfl (fun i=>Aa.mono t.keeps _ _ (fun i _=>t.agree i rfl) (h.slots i)) (Ao.mono t.keeps _ _ (fun i _=>t.agree i rfl) h.t_) h1 h2 h3 h4
theorem cX (h:R F st a w G) {i0:Ad} {b:Nat} (hb:G.blk i0=some b) {cur:Array Value} {T:TypeId} (hh:w.heap[b]? =some (.cells cur T (0,0))) (row:Array Value):aaL F (fun _=>false) (· ==i0) G G w (w.setRow b row) where
 agree:=(by grind)
 same:=fun i b' hi hb'=>setRow_other w b b' _ (fun e=>by have:=h.inj i i0 b' hb' (by grind);grind)
 keeps:=⟨by simp,fun k _ hw=>setRow_other w b k _ (fun e=>hw ((h.wr k).2 (by grind))),fun _ _ q=>q,fun i k h1 _=>by
  by_cases hkb:k=b
  ·subst hkb;intro acb T' fz' hq;rw [hh]at hq;injection hq with hq;injection hq with _ hq _;subst hq;exact⟨_,_,setRow_heap w k cur row T (0,0) hh⟩
  grind [BU.same,setRow_other]⟩
 outer:=⟨by simp,by simp,by simp⟩
 ext:=fun k hk ho=>setRow_other w b k _ (fun e=>by
  rcases h.new i0 b hb with q | q
  all_goals grind)
 wr:=h.wr
 inj:=h.inj
 lt:=fun i k hi=>by simpa using h.lt i k hi
 new:=h.new
theorem EV (h:R F st a w G) (G':Ax) (hw:G'.wr=fun b=>F.av b\/ ∃ i,G'.blk i=some b) (ha: ∀ i,p i=false->G'.blk i=G.blk i/\G'.own i=G.own i) (hs: ∀ i b,G'.blk i=some b-> ∃ j,G.blk j=some b)
 (hi: ∀ i j b,G'.blk i=some b->G'.blk j=some b->i=j):aaL F p (fun _=>false) G G' w w where
 agree:=ha
 same:=fun _ _ _ _=>rfl
 keeps:=⟨Nat.le_refl _,fun _ _ _=>rfl,fun b _ hb=>by rw [hw]at hb;rw [h.wr];grind,fun _ _ _ _=>BU.same rfl⟩
 outer:=⟨rfl,rfl,rfl⟩
 ext:=fun _ _ _=>rfl
 wr:=fun b=>by rw [hw]
 inj:=hi
 lt:=fun i b hb=>by obtain⟨j,hj⟩:=hs i b hb;exact h.lt j b hj
 new:=fun i b hb=>by obtain⟨j,hj⟩:=hs i b hb;exact h.new j b hj
theorem R.uniq (h:R F st a w G) {d e:Ar} (hd:d∈st.so) (he:e∈st.so) (hi:d.id=e.id):d=e:=by have:=List.pairwise_map.1 h.nodup;rcases mem_iff_getElem.1 hd with ⟨i,hi1,rfl⟩;rcases mem_iff_getElem.1 he with ⟨j,hj1,rfl⟩;grind [List.pairwise_iff_getElem]
end
def St.u_ (st:St) (id:Ad):Option Ar:=st.so.find? (fun e=>e.id==id&&DF e.id)
theorem L3 {st:St} {id:Ad} {e:Ar} (h:st.u_ id=some e):e∈st.so/\e.id=id/\DF id=true:=by have:=find?_some h;simp only [and_eq_true,beq_iff_eq]at this;exact⟨List.mem_of_find?_eq_some h,this.1,by grind⟩
def C_ (id:Ad) (row:Option (TypeId×Nat×Nat)) (cells:List C) (e:Ar):Ar:=match e.id==id with
 | true=>⟨e.id,row,cells,e.pu⟩
 | false=>e
theorem ZK (id:Ad) (row:Option (TypeId×Nat×Nat)) (cells:List C) (e:Ar):(C_ id row cells e).id =e.id:=by grind [C_]
theorem C2 {id:Ad} {row:Option (TypeId×Nat×Nat)} {cells:List C} {e:Ar} (h:e.id ≠ id):C_ id row cells e=e:=by grind [C_]
theorem C3 {id:Ad} {row:Option (TypeId×Nat×Nat)} {cells:List C} {e:Ar} (h:e.id=id):C_ id row cells e=⟨e.id,row,cells,e.pu⟩:=by grind [C_]
def C4 (id:Ad):Ad->Bool
 | m::_::j=>Nat.beq m 1000007&&j==id
 | _=>false
theorem FR (id:Ad) (k:Nat) (j:Ad):C4 id (Bi k j)=(j==id):=by simp [C4,Bi]
theorem HT {w:World} {G:Ax}: ∀ {cs:List C} {b o j:Nat} {c:C},Ai w G cs b o->(∀ v d,cs[j]? =some d->w.cell? ⟨b,o+j,none⟩=some v->Ab w G d v->Ab w G c v)->Ai w G (cs.set j c) b o
 | [],_,_,_,_,h,_=>by grind
 | d::cs,b,o,0,c,h,hc=>by grind [Ai]
 | d::cs,b,o,j+1,c,h,hc=>by simp only [Ai]at h;simp only [List.set_cons_succ,Ai];exact⟨h.1,HT h.2 (fun v d hd hv=>hc v d (by simpa using hd) (by rw [show o+(j+1)=o+1+j by omega];exact hv))⟩
section
variable {F:Fr} {st:St} {a:Act} {w w':World} {G G':Ax} {p q:Ad->Bool}
theorem R.W_ (h:R F st a w G) {id:Ad} {e:Ar} (hl:st.u_ id=some e):e∈st.so/\e.id=id/\DF id=true/\Cf id=false/\e.pu=true/\Al e.cs=true/\Dw w G e/\ ∃ E n len,e.row=some (E,n,len):=by obtain⟨hm,hid,hd⟩:=L3 hl;obtain⟨h1,h2⟩:=h.deep e hm;obtain⟨h3,h4,h5⟩:=h2 (by rw [hid];exact hd);refine⟨hm,hid,hd,by grind,h3,h.k_ e hm h3,h5,?_⟩;cases hr:e.row<;>grind
theorem R.inner (h:R F st a w G) {id:Ad} {e:Ar} (hl:st.u_ id=some e) {k n len:Nat} {E:TypeId} {cs:List C} (hk:e.cs[k]? =some (.isl E n len cs)):
 Al cs=true/\AN w G ⟨Bi k id,some (E,n,len),cs,true⟩/\ ∃ b v,G.blk id=some b/\w.cell? ⟨b,k,none⟩=some v/\G.own (Bi k id)=some v:=by
 obtain⟨hm,hid,hd,_,_,_,hi,_⟩:=h.W_ hl;have:=hi k E n len cs hk;grind
theorem R.abv (h:R F st a w G) {id:Ad} {e:Ar} (hl:st.u_ id=some e) {b:Nat} (hb:G.blk id=some b): ∃ E n len v cap cur,e.row=some (E,n,len)/\e.cs.length=len*n/\G.own id=some v/\v= .slice (some ⟨b,0,none⟩) len cap/\w.heap[b]? =some (.cells cur E (0,0))/\len<=cap/\cap<=maxLen/\cur.size=cap*n/\Ai w G e.cs b 0:=by obtain⟨hm,hid,_,_,_,_,_,E,n,len,hr⟩:=h.W_ hl;have hE:=h.store e hm;grind [AN]
theorem aaL.afx (h:R F st a w G) (t:aaL F p q G G' w w') {id:Ad} {e:Ar} (hl:st.u_ id=some e) (f:Ar->Bool) (hf: ∀ d∈st.so,f d=true->d.id ≠ id->p d.id=false/\q d.id=false/\(DF d.id=true-> ∀ k,p (Bi k d.id)=false/\q (Bi k d.id)=false))
 {cells:List C} {row:Option (TypeId×Nat×Nat)} (hrs:row.isSome=true) (h1:AN w' G' ⟨id,row,cells,true⟩) (h2:Dw w' G' ⟨id,row,cells,true⟩) (h3:Al cells=true):
 (∀ d∈((st.so.filter f).map (Ar.a_ p)).map (C_ id row cells),AN w' G' d)/\(∀ d∈((st.so.filter f).map (Ar.a_ p)).map (C_ id row cells),A8 w' G' d)/\
 (∀ d∈((st.so.filter f).map (Ar.a_ p)).map (C_ id row cells),d.pu=true->Al d.cs=true)/\((((st.so.filter f).map (Ar.a_ p)).map (C_ id row cells)).map (·.id)).Nodup :=by
 obtain⟨hm,hid,hd,hmk,hpu,hpe,hi,E,n,len,hr⟩:=h.W_ hl;have key: ∀ d∈((st.so.filter f).map (Ar.a_ p)).map (C_ id row cells),(d=⟨id,row,cells,true⟩)\/ ∃ x∈st.so,f x=true/\x.id ≠ id/\d=x.a_ p:=by
  intro d hd;simp only [map_map,mem_map,mem_filter,Function.comp]at hd;obtain⟨x,⟨hx,hfx⟩,rfl⟩:=hd;by_cases hxi:x.id=id
  ·have:=h.uniq hx hm (hxi.trans hid.symm);subst this;left;have hk:x.a_ p=x:=by obtain⟨i,r,cs,pu⟩:=x;simp only at hpu;subst hpu;rfl
   grind [C3]
  grind [C2,Ar.j_]
 refine⟨fun d Y_=>?_,fun d Y_=>?_,fun d Y_=>?_,?_⟩
 ·rcases key d Y_ with rfl | ⟨x,hx,hfx,hxi,rfl⟩
  ·exact h1
  ·obtain⟨k1,k2,_⟩:=hf x hx hfx hxi;exact t.ent h hx k1 k2
 ·rcases key d Y_ with rfl | ⟨x,hx,hfx,hxi,rfl⟩
  ·exact⟨hmk,fun _=>⟨rfl,hrs,h2⟩⟩
  ·obtain⟨k1,k2,k3⟩:=hf x hx hfx hxi;exact t.deep h hx k1 k2 k3
 ·rcases key d Y_ with rfl | ⟨x,hx,hfx,hxi,rfl⟩
  ·grind
  ·exact M9 (h.k_ x hx)
 ·have:(((st.so.filter f).map (Ar.a_ p)).map (C_ id row cells)).map (·.id)=(st.so.filter f).map (·.id):=by simp_all [ZK,Ar.j_]
  rw [this];exact List.Sublist.nodup (by grind [filter_sublist]) h.nodup
theorem N4 (l:List Ar):l.map (Ar.a_ fun _=>false)=l:=by induction l<;>grind [Ar.agJ]
end
end Go.PL
namespace Go.PL
open Go Go.RowKit
section
variable {F:Fr} {st:St} {a:Act} {w w':World} {G G':Ax} {p q:Ad->Bool}
theorem HU (l:List Ar):l.filter (fun _=>true)=l:=(by simp_all)
theorem BV {id j:Ad} (h:Cf id=false) (k:Nat):id ≠ Bi k j:=fun e=>by rw [e]at h;cases h
theorem Rc (h:R F st a w G) {i0:Ad} (d:Ar) (hd:d∈st.so) (n_:d.id ≠ i0) (hmk: ∀ k,DF d.id=true->Bi k d.id ≠ i0):
 (fun _=>false:Ad->Bool) d.id=false/\(d.id==i0)=false/\(DF d.id=true-> ∀ k,(fun _=>false:Ad->Bool) (Bi k d.id)=false/\(Bi k d.id==i0)=false):=
 (by grind)
def St.ab8 (st:St) (id:Ad) (row:Option (TypeId×Nat×Nat)) (cells:List C):St:={st with so:=st.so.map (C_ id row cells)}
theorem R.ac2 (h:R F st a w G) {id:Ad} {e:Ar} (hl:st.u_ id=some e) {k n len:Nat} {E:TypeId} {cs:List C} (hk:e.cs[k]? =some (.isl E n len cs)) {b:Nat} (hb:G.blk (Bi k id)=some b)
 {off:Nat} {xs:List C} {vs:List Value} (hx:Ae w G xs vs) (aaC:off+xs.length<=cs.length) (hp:Al xs=true):
 ∃ cur T,w.heap[b]? =some (.cells cur T (0,0))/\off+vs.length<=cur.size/\
   R F (st.ab8 id e.row (e.cs.set k (.isl E n len (cs.take off++xs++cs.drop (off+xs.length))))) a (w.setRow b (cur.toList.take off++vs++cur.toList.drop (off+vs.length)).toArray) G:=by
 obtain⟨hm,hid,hd,hmk,hpu,hpe,hi,E0,n0,adt,hr⟩:=h.W_ hl;obtain⟨hpc,hE,bo,vo,hbo,aah,z_⟩:=h.inner hl hk;unfold AN at hE;obtain⟨hcl,v,h1,h2 | ⟨b',cap,cur,e1,e2,e3,e4,e5,e6,e7⟩⟩:=hE
 ·grind
 rw [show (⟨Bi k id,some (E,n,len),cs,true⟩:Ar).id =Bi k id from rfl]at h1 e2;rw [hb]at e2;injection e2 with e2;subst e2;obtain⟨us,r1,r2⟩:=e7.list;simp only at r1 e7 hcl;have hlx:=hx.length;have hlu:=r1.length;have hle:cs.length<=cur.size:=by simp_all [Nat.mul_le_mul_right]
 have aaT:=Fi e3 r2;refine⟨cur,E,e3,by omega,?_⟩;have t:=cX h hb e3 (cur.toList.take off++vs++cur.toList.drop (off+vs.length)).toArray;have J_:=setRow_heap w b cur (cur.toList.take off++vs++cur.toList.drop (off+vs.length)).toArray E (0,0) e3;have adw:(us.take off++vs++us.drop (off+vs.length))++cur.toList.drop us.length=(cur.toList.take off++vs++cur.toList.drop (off+vs.length)).toArray.toList :=by grind
 have adx:=Bp J_ adw;have hl2:Ae w G (cs.take off++xs++cs.drop (off+xs.length)) (us.take off++vs++us.drop (off+vs.length)):=by rw [hlx];exact((r1.take off).append hx).append (r1.drop _)
 have ad9:=Ai.U_ (Ae.mono t.keeps _ _ (fun _ _=>⟨rfl,rfl⟩) hl2) adx;have hlen:(cs.take off++xs++cs.drop (off+xs.length)).length =cs.length:=by simp;omega
 have ajw:(cur.toList.take off++vs++cur.toList.drop (off+vs.length)).toArray.size =cur.size:=by simp;omega
 have hpx:Al (cs.take off++xs++cs.drop (off+xs.length))=true:=by grind [Bl,Jl,Jm]
 have n_:bo ≠ b:=fun q=>BV hmk k (h.inj _ _ bo hbo (by rw [q];exact hb));have hcs: ∀ o,(w.setRow b (cur.toList.take off++vs++cur.toList.drop (off+vs.length)).toArray).cell? ⟨bo,o,none⟩=w.cell? ⟨bo,o,none⟩:=(by grind [G_,setRow_other]);obtain⟨E1,n1,aeK,v1,aax,adZ,g1,g2,g3,g4,g5,g6,g7,g8,g9⟩:=h.abv hl hbo;have T_:Al (e.cs.set k (.isl E n len (cs.take off++xs++cs.drop (off+xs.length))))=true:=by
  rw [By,all_eq_true]at hpe ⊢;intro c hc;rcases List.mem_or_eq_of_mem_set hc with q | q
  ·grind
  ·rw [q];rfl
 have aca:AN (w.setRow b (cur.toList.take off++vs++cur.toList.drop (off+vs.length)).toArray) G ⟨id,e.row,e.cs.set k (.isl E n len (cs.take off++xs++cs.drop (off+xs.length))),true⟩:=by unfold AN;rw [g1];refine⟨by grind,v1,g3, .inr ⟨bo,aax,adZ,g4,hbo,by grind [setRow_other],g6,g7,g8,?_⟩⟩;refine HT (Ai.mono t.keeps _ _ _ (fun _ _=>⟨rfl,rfl⟩) hcs g9) (fun u d hd _ hrd=>?_);grind [Ab]
 have hin:Dw (w.setRow b (cur.toList.take off++vs++cur.toList.drop (off+vs.length)).toArray) G ⟨id,e.row,e.cs.set k (.isl E n len (cs.take off++xs++cs.drop (off+xs.length))),true⟩:=by
  intro j E2 n2 aag cs2 hj;simp only [getElem?_set]at hj;split at hj
  ·rename_i hkj;subst hkj;split at hj
   ·injection hj with hj;injection hj with q1 q2 q3 q4;subst q1 q2 q3 q4;refine⟨hpx,?_,bo,vo,hbo,by grind,z_⟩;unfold AN;exact⟨by grind,v,h1, .inr ⟨b,cap,_,e1,hb,J_,e4,e5,by grind,ad9⟩⟩
   ·cases hj
  ·rename_i hkj;obtain⟨k1,k2,b2,v2,k3,k4,k5⟩:=h.inner hl hj;refine⟨k1,BN t.keeps (fun _ _=>⟨rfl,rfl⟩) ⟨rfl,rfl⟩ (fun b3 hb3=>setRow_other w b b3 _ (fun q=>?_)) k2,b2,v2,k3,?_,k5⟩
   ·have:=h.inj _ _ b3 hb3 (by rw [q];exact hb);grind [NR]
   grind
 have E_:=t.afx h hl (fun _=>true) (fun d Y_ _ abD=>Rc h d Y_ (fun q2=>BV (h.deep d Y_).1 k q2) (by grind [NR])) (by rw [g1];rfl) aca hin T_;rw [HU,N4]at E_;exact t.kept h _ E_.1 E_.2.1 E_.2.2.1 E_.2.2.2
def hZ:C->Bool
 | .isl .. =>false
 | _=>true
theorem R.aa6 (h:R F st a w G) {id:Ad} {e:Ar} (hl:st.u_ id=some e) {b:Nat} (hb:G.blk id=some b)
 {off:Nat} {xs:List C} {vs:List Value} (hx:Ae w G xs vs) (aaC:off+xs.length<=e.cs.length) (hp:Al xs=true) (hn:xs.all hZ=true):
 ∃ cur T,w.heap[b]? =some (.cells cur T (0,0))/\off+vs.length<=cur.size/\
   R F (st.ab8 id e.row (e.cs.take off++xs++e.cs.drop (off+xs.length))) a (w.setRow b (cur.toList.take off++vs++cur.toList.drop (off+vs.length)).toArray) G:=by
 obtain⟨hm,hid,hd,hmk,hpu,hpe,hi,E0,n0,adt,hr⟩:=h.W_ hl;obtain⟨E,n,len,v,cap,cur,g1,g2,g3,g4,g5,g6,g7,g8,g9⟩:=h.abv hl hb;obtain⟨us,r1,r2⟩:=g9.list;have hlx:=hx.length;have hlu:=r1.length;have hle:e.cs.length<=cur.size:=by simp_all [Nat.mul_le_mul_right]
 have aaT:=Fi g5 r2;refine⟨cur,E,g5,by omega,?_⟩;have t:=cX h hb g5 (cur.toList.take off++vs++cur.toList.drop (off+vs.length)).toArray;have J_:=setRow_heap w b cur (cur.toList.take off++vs++cur.toList.drop (off+vs.length)).toArray E (0,0) g5;have adw:(us.take off++vs++us.drop (off+vs.length))++cur.toList.drop us.length=(cur.toList.take off++vs++cur.toList.drop (off+vs.length)).toArray.toList :=by grind
 have adx:=Bp J_ adw;have hl2:Ae w G (e.cs.take off++xs++e.cs.drop (off+xs.length)) (us.take off++vs++us.drop (off+vs.length)):=by rw [hlx];exact((r1.take off).append hx).append (r1.drop _)
 have ad9:=Ai.U_ (Ae.mono t.keeps _ _ (fun _ _=>⟨rfl,rfl⟩) hl2) adx;have hlen:(e.cs.take off++xs++e.cs.drop (off+xs.length)).length =e.cs.length:=by simp;omega
 have ajw:(cur.toList.take off++vs++cur.toList.drop (off+vs.length)).toArray.size =cur.size:=by simp;omega
 have hpx:Al (e.cs.take off++xs++e.cs.drop (off+xs.length))=true:=by grind [Bl,Jl,Jm]
 have aca:AN (w.setRow b (cur.toList.take off++vs++cur.toList.drop (off+vs.length)).toArray) G ⟨id,e.row,e.cs.take off++xs++e.cs.drop (off+xs.length),true⟩:=by unfold AN;rw [g1];exact⟨by grind,v,g3, .inr ⟨b,cap,_,g4,hb,J_,g6,g7,by grind,ad9⟩⟩
 have hin:Dw (w.setRow b (cur.toList.take off++vs++cur.toList.drop (off+vs.length)).toArray) G ⟨id,e.row,e.cs.take off++xs++e.cs.drop (off+xs.length),true⟩:=by
  intro j E2 n2 aag cs2 hj;simp only at hj;have hj2:(j<off\/off+xs.length<=j)/\e.cs[j]? =some (.isl E2 n2 aag cs2):=by
   rw [append_assoc]at hj;have htl:(e.cs.take off).length =off:=by grind
   by_cases q1:j<off
   ·grind
   ·rw [getElem?_append_right (by omega),htl]at hj;by_cases q2:j<off+xs.length
    ·rw [List.getElem?_append_left (by omega)]at hj;have:=all_eq_true.1 hn _ (List.mem_of_getElem? hj);cases this
    grind
  obtain⟨k1,k2,b2,v2,k3,k4,k5⟩:=h.inner hl hj2.2;rw [hb]at k3;injection k3 with k3;subst k3;refine⟨k1,BN t.keeps (fun _ _=>⟨rfl,rfl⟩) ⟨rfl,rfl⟩ (fun b3 hb3=>setRow_other w b b3 _ (fun q=>?_)) k2,b,v2,hb,?_,k5⟩
  ·exact BV hmk j (h.inj _ _ b hb (by rw [<-q];exact hb3))
  ·have hjl:j<e.cs.length:=(by grind);simp only [World.cell?,J_];simp only [World.cell?,g5]at k4;have hold:cur.toList[j]? =some v2:=by grind
   have htl:(cur.toList.take off).length =off:=by grind
   have:(cur.toList.take off++vs++cur.toList.drop (off+vs.length))[j]? =some v2:=by
    rw [append_assoc];rcases hj2.1 with q1 | q1
    ·grind
    ·rw [getElem?_append_right (by omega),htl,getElem?_append_right (by omega),List.getElem?_drop];grind
   grind
 have E_:=t.afx h hl (fun _=>true) (fun d Y_ _ abD=>Rc h d Y_ abD (by grind [BV])) (by rw [g1];rfl) aca hin hpx;rw [HU,N4]at E_;exact t.kept h _ E_.1 E_.2.1 E_.2.2.1 E_.2.2.2
theorem En {id i:Ad} (h:C4 id i=true):Cf i=true:=by
 match i,h with
 | m::k::j,h=>
   simp only [C4,and_eq_true]at h;exact h.1
theorem lC {id i:Ad} (h:C4 id i=true): ∃ k,i=Bi k id:=by
 match i,h with
 | m::k::j,h=>
   simp only [C4,and_eq_true,beq_iff_eq]at h;have h1:=eq_of_beq_eq_true h.1;subst h1;rw [h.2];exact⟨k,rfl⟩
def pD (r id i:Ad):Bool:=i==r||C4 id i
theorem qo (h:R F st a w G) {r id:Ad} (hr:Cf r=false) {d:Ar} (hd:d∈st.so) (h1:d.id ≠ r) (h2:d.id ≠ id):pD r id d.id=false/\(DF d.id=true-> ∀ k,pD r id (Bi k d.id)=false/\(fun _=>false:Ad->Bool) (Bi k d.id)=false):=by
 refine⟨?_,fun _ k=>⟨?_,rfl⟩⟩
 ·unfold pD;rw [show (d.id==r)=false by simpa using h1,Bool.false_or];cases hq:C4 id d.id with
  | false=>rfl
  | true=>
    have:=En hq;rw [(h.deep d hd).1]at this;cases this
 ·unfold pD;rw [show (Bi k d.id==r)=false by simpa using (BV hr k).symm,Bool.false_or,FR];grind
theorem R.af3 (h:R F st a w G) {id r:Ad} {e er:Ar} (hl:st.u_ id=some e) (hr:st.look r=some er) {E:TypeId} {n len:Nat} (m_:er.row=some (E,n,len)) (hpr:er.pu=true)
 {k b:Nat} {v:Value} (hb:G.blk id=some b) (hc:w.cell? ⟨b,k,none⟩=some v) (ho:G.own r=some v) (hk:k<e.cs.length):
 ∃ G',R F (st.a_ (pD r id) (((st.so.filter (fun d=>d.id != r)).map (Ar.a_ (pD r id))).map (C_ id e.row (e.cs.set k (.isl E n len er.cs))))) a w G'/\G'.own id=G.own id/\G'.blk id=G.blk id/\ ∀ i,pD r id i=false->G'.blk i=G.blk i/\G'.own i=G.own i:=by
 obtain⟨hm,hid,hd,hmk,hpu,hpe,hi,E0,n0,adt,hr0⟩:=h.W_ hl;obtain⟨hmr,acU⟩:=AZ hr;have afu:=DP hr;have aeP:Cf r=false:=by rw [<-acU];exact(h.deep er hmr).1
 have aeN:r ≠ id:=(by grind);have hpc:=h.k_ er hmr hpr;let G':Ax:=⟨fun i=>if i=r then none else if i=Bi k id then G.blk r else G.blk i,fun i=>if i=r then none else if i=Bi k id then G.own r else G.own i,fun b=>F.av b\/ ∃ i,(if i=r then none else if i=Bi k id then G.blk r else G.blk i)=some b⟩;have hag: ∀ i,pD r id i=false->G'.blk i=G.blk i/\G'.own i=G.own i:=by intro i hpi;simp only [pD,or_eq_false_iff,beq_eq_false_iff_ne]at hpi;have h2:i ≠ Bi k id:=(by grind [FR]);grind
 have t:aaL F (pD r id) (fun _=>false) G G' w w:=EV h G' rfl hag (by grind) (fun i j b hib hjb=>by
  simp only [G']at hib hjb;split at hib
  ·cases hib
  ·rename_i q1;split at hjb
   ·cases hjb
   ·rename_i q2;split at hib<;>split at hjb
    ·simp_all
    ·exact absurd (h.inj _ _ b hjb hib) q2
    ·exact absurd (h.inj _ _ b hib hjb) q1
    ·exact h.inj _ _ b hib hjb)
 have n_:id ≠ Bi k id:=BV hmk k;have gid:G'.blk id=G.blk id/\G'.own id=G.own id:=(by grind);have gk:G'.blk (Bi k id)=G.blk r/\G'.own (Bi k id)=G.own r:=by have:Bi k id ≠ r:=(BV aeP k).symm;grind
 have gj: ∀ j,j ≠ k->G'.blk (Bi j id)=G.blk (Bi j id)/\G'.own (Bi j id)=G.own (Bi j id):=by intro j hj;have h1:Bi j id ≠ r:=(BV aeP j).symm;have h2:Bi j id ≠ Bi k id:=fun q=>hj (NR q).1;grind
 obtain⟨E1,n1,aeK,v1,aax,adZ,g1,g2,g3,g4,g5,g6,g7,g8,g9⟩:=h.abv hl hb;have T_:Al (e.cs.set k (.isl E n len er.cs))=true:=by
  rw [By,all_eq_true]at hpe ⊢;intro c hc;rcases List.mem_or_eq_of_mem_set hc with q | q
  ·grind
  ·rw [q];rfl
 have hno: ∀ cs:List C,Al cs=true->GJ (fun i=>Bm i cs=true) G G':=fun cs hp i M_=>absurd (show Bm i cs=true from M_) (by rw [AL i cs hp];simp);have aca:AN w G' ⟨id,e.row,e.cs.set k (.isl E n len er.cs),true⟩:=by unfold AN;rw [g1];refine⟨by grind,v1,by grind, .inr ⟨b,aax,adZ,g4,by grind,g5,g6,g7,g8,?_⟩⟩;refine HT (Ai.mono t.keeps _ _ _ (hno _ hpe) (fun _=>rfl) g9) (fun u d _ _ hrd=>?_);simp only [Ab];exact hrd.one
 have hin:Dw w G' ⟨id,e.row,e.cs.set k (.isl E n len er.cs),true⟩:=by
  intro j E2 n2 aag cs2 hj;simp only [getElem?_set]at hj;split at hj
  ·rename_i hkj;subst hkj
   ·injection hj with hj;injection hj with q1 q2 q3 q4;subst q1 q2 q3 q4;refine⟨hpc,?_,b,v,by grind,hc,by grind⟩;have hE:=h.store er hmr;unfold AN at hE ⊢;rw [m_]at hE;obtain⟨c1,v2,c2,c3⟩:=hE;refine⟨c1,v2,by grind,?_⟩;rcases c3 with ⟨p,c3,c4,c5⟩ | ⟨b',cap,cur,e1,e2,e3,e4,e5,e6,e7⟩
    ·grind
    ·exact .inr ⟨b',cap,cur,e1,by grind,e3,e4,e5,e6,Ai.mono t.keeps _ _ _ (hno _ hpc) (fun _=>rfl) e7⟩
  ·rename_i hkj;obtain⟨k1,k2,b2,v2,k3,k4,k5⟩:=h.inner hl hj;have gjj:=gj j (fun q=>hkj q.symm);exact⟨k1,BN t.keeps (hno _ k1) gjj (fun _ _=>rfl) k2,b2,v2,by grind,k4,by grind⟩
 have E_:=t.afx h hl (fun d=>d.id != r) (fun d Y_ hf abD=>by have:=qo h (id:=id) aeP Y_ (by simpa using hf) abD;grind) (by rw [g1];rfl) aca hin T_
 exact⟨G',t.acj h _ E_.1 E_.2.1 E_.2.2.1 E_.2.2.2,gid.2,gid.1,hag⟩
theorem R.ahh (h:R F st a w G) {id r:Ad} {e er:Ar} (hl:st.u_ id=some e) (hr:st.look r=some er) {E:TypeId} {n len:Nat} (m_:er.row=some (E,n,len)) (hpr:er.pu=true)
 {k b:Nat} {v:Value} (hb:G.blk id=some b) (hc:w.cell? ⟨b,k,none⟩=some v) (ho:G.own r=some v) (hk:k<e.cs.length):
 ∃ G',R F (st.a_ (pD r id) (((st.so.filter (fun d=>d.id != r)).map (Ar.a_ (pD r id))).map (C_ id e.row (e.cs.set k (.isl E n len er.cs))))) a w G'/\G'.own id=G.own id:=by
 obtain⟨G',a,b,_⟩:=h.af3 hl hr m_ hpr hb hc ho hk;grind
theorem R.extract (h:R F st a w G) {id r:Ad} {e:Ar} (hl:st.u_ id=some e) {k n len:Nat} {E:TypeId} {cs:List C} (hk:e.cs[k]? =some (.isl E n len cs)) (aeP:Cf r=false) (afu:DF r=false):
 ∃ G',R F (st.a_ (pD r id) (⟨r,some (E,n,len),cs,true⟩::((st.so.filter (fun d=>d.id != r)).map (Ar.a_ (pD r id))).map (C_ id e.row (e.cs.set k .any)))) a w G'/\
   ∃ b v,G.blk id=some b/\w.cell? ⟨b,k,none⟩=some v/\G'.own r=some v/\v.oneCell'=true:=by
 obtain⟨hm,hid,hd,hmk,hpu,hpe,hi,E0,n0,adt,hr0⟩:=h.W_ hl;obtain⟨hpc,hE,b,v,hb,hc,ho⟩:=h.inner hl hk;have aeN:r ≠ id:=(by grind);let G':Ax:=⟨fun i=>if i=r then G.blk (Bi k id)else if i=Bi k id then none else G.blk i,fun i=>if i=r then G.own (Bi k id)else if i=Bi k id then none else G.own i,fun b=>F.av b\/ ∃ i,(if i=r then G.blk (Bi k id)else if i=Bi k id then none else G.blk i)=some b⟩;have hag: ∀ i,pD r id i=false->G'.blk i=G.blk i/\G'.own i=G.own i:=by intro i hpi;simp only [pD,or_eq_false_iff,beq_eq_false_iff_ne]at hpi;have h2:i ≠ Bi k id:=(by grind [FR]);grind
 have t:aaL F (pD r id) (fun _=>false) G G' w w:=EV h G' rfl hag (by grind) (fun i j b hib hjb=>by
  simp only [G']at hib hjb;split at hib<;>split at hjb
  ·simp_all
  ·split at hjb
   ·cases hjb
   ·rename_i q2 q3;exact absurd (h.inj _ _ b hjb hib) q3
  ·split at hib
   ·cases hib
   ·rename_i q3;exact absurd (h.inj _ _ b hib hjb) q3
  ·split at hib
   ·cases hib
   ·split at hjb
    ·cases hjb
    ·exact h.inj _ _ b hib hjb)
 have n_:id ≠ Bi k id:=BV hmk k;have gid:G'.blk id=G.blk id/\G'.own id=G.own id:=(by grind);have gr:G'.blk r=G.blk (Bi k id)/\G'.own r=G.own (Bi k id):=(by grind);have gj: ∀ j,j ≠ k->G'.blk (Bi j id)=G.blk (Bi j id)/\G'.own (Bi j id)=G.own (Bi j id):=by intro j hj;have h1:Bi j id ≠ r:=(BV aeP j).symm;have h2:Bi j id ≠ Bi k id:=fun q=>hj (NR q).1;grind
 obtain⟨E1,n1,aeK,v1,aax,adZ,g1,g2,g3,g4,g5,g6,g7,g8,g9⟩:=h.abv hl hb;have T_:Al (e.cs.set k .any)=true:=by
  rw [By,all_eq_true]at hpe ⊢;intro c hc;rcases List.mem_or_eq_of_mem_set hc with q | q
  ·grind
  ·rw [q];rfl
 have hno: ∀ cs:List C,Al cs=true->GJ (fun i=>Bm i cs=true) G G':=fun cs hp i M_=>absurd (show Bm i cs=true from M_) (by rw [AL i cs hp];simp);have aca:AN w G' ⟨id,e.row,e.cs.set k .any,true⟩:=by unfold AN;rw [g1];refine⟨by grind,v1,by grind, .inr ⟨b,aax,adZ,g4,by grind,g5,g6,g7,g8,?_⟩⟩;refine HT (Ai.mono t.keeps _ _ _ (hno _ hpe) (fun _=>rfl) g9) (fun u d _ _ hrd=>?_);grind [Ab]
 have hin:Dw w G' ⟨id,e.row,e.cs.set k .any,true⟩:=by
  intro j E2 n2 aag cs2 hj;simp only [getElem?_set]at hj;split at hj
  ·grind
  ·rename_i hkj;obtain⟨k1,k2,b2,v2,k3,k4,k5⟩:=h.inner hl hj;have gjj:=gj j (fun q=>hkj q.symm);exact⟨k1,BN t.keeps (hno _ k1) gjj (fun _ _=>rfl) k2,b2,v2,by grind,k4,by grind⟩
 have E_:=t.afx h hl (fun d=>d.id != r) (fun d Y_ hf abD=>by have:=qo h (id:=id) aeP Y_ (by simpa using hf) abD;grind) (by rw [g1];rfl) aca hin T_
 have aa3:v.oneCell'=true:=by unfold AN at hE;obtain⟨_,v2,c2,c3⟩:=hE;rw [show (⟨Bi k id,some (E,n,len),cs,true⟩:Ar).id =Bi k id from rfl,ho]at c2;injection c2 with c2;subst c2;rcases c3 with ⟨p,rfl,_⟩ | ⟨b',cap,cur,rfl,_⟩<;>rfl
 refine⟨G',t.acj h _ ?_ ?_ ?_ ?_,b,v,hb,hc,by grind,aa3⟩
 ·intro x hx;rcases mem_cons.1 hx with rfl | hx
  ·unfold AN at hE ⊢;obtain⟨c1,v2,c2,c3⟩:=hE;refine⟨c1,v2,by grind,?_⟩;rcases c3 with ⟨p,c3,c4,c5⟩ | ⟨b',cap,cur,e1,e2,e3,e4,e5,e6,e7⟩
   ·grind
   ·exact .inr ⟨b',cap,cur,e1,by grind,e3,e4,e5,e6,Ai.mono t.keeps _ _ _ (hno _ hpc) (fun _=>rfl) e7⟩
  grind
 ·intro x hx;rcases mem_cons.1 hx with rfl | hx
  all_goals grind [A8.ahD]
 ·grind
 ·rw [map_cons];refine nodup_cons.2 ⟨?_,E_.2.2.2⟩;simp only [map_map,mem_map,mem_filter,Function.comp,ZK,Ar.j_,not_exists,not_and];grind
theorem R.afY (h:R F st a w G) {r id:Ad} {er:Ar} (hr:st.look r=some er) {E:TypeId} {n len:Nat} (m_:er.row=some (E,n,len)) (hpr:er.pu=true) (hn:er.cs.all hZ=true) (hd:DF id=true) (hmk:Cf id=false):
 ∃ G',R F (st.a_ (fun i=>i==r||(i==id||C4 id i)) (⟨id,some (E,n,len),er.cs,true⟩::((st.so.filter (fun d=>d.id != r&&d.id != id)).map (Ar.a_ (fun i=>i==r||(i==id||C4 id i)))))) a w G'/\G'.own id=G.own r/\ ∀ i,i ≠ r->i ≠ id->G'.own i=G.own i:=by
 obtain⟨hmr,acU⟩:=AZ hr;have afu:=DP hr;have aeP:Cf r=false:=by rw [<-acU];exact(h.deep er hmr).1
 have aeN:r ≠ id:=(by grind);have hpc:=h.k_ er hmr hpr;let G':Ax:=⟨fun i=>if i=r then none else if i=id then G.blk r else G.blk i,fun i=>if i=r then none else if i=id then G.own r else G.own i,fun b=>F.av b\/ ∃ i,(if i=r then none else if i=id then G.blk r else G.blk i)=some b⟩;have t:aaL F (fun i=>i==r||(i==id||C4 id i)) (fun _=>false) G G' w w:=EV h G' rfl (by grind) (by grind) (fun i j b hib hjb=>by
  simp only [G']at hib hjb;split at hib
  ·cases hib
  ·rename_i q1;split at hjb
   ·cases hjb
   ·rename_i q2;split at hib<;>split at hjb
    ·simp_all
    ·exact absurd (h.inj _ _ b hjb hib) q2
    ·exact absurd (h.inj _ _ b hib hjb) q1
    ·exact h.inj _ _ b hib hjb)
 have gid:G'.blk id=G.blk r/\G'.own id=G.own r:=(by grind);have hno: ∀ cs:List C,Al cs=true->GJ (fun i=>Bm i cs=true) G G':=fun cs hp i M_=>absurd (show Bm i cs=true from M_) (by rw [AL i cs hp];simp);have hp: ∀ d∈st.so,d.id ≠ r->d.id ≠ id->(fun i=>i==r||(i==id||C4 id i)) d.id=false/\(DF d.id=true-> ∀ k,(fun i=>i==r||(i==id||C4 id i)) (Bi k d.id)=false/\(fun _=>false:Ad->Bool) (Bi k d.id)=false):=by
  intro d Y_ h1 h2;have hof:C4 id d.id=false:=by
   cases hq:C4 id d.id with
   | false=>rfl
   | true=>
     have:=En hq;rw [(h.deep d Y_).1]at this;cases this
  refine⟨by grind,fun _ k=>⟨?_,rfl⟩⟩;grind [BV,FR]
 refine⟨G',t.acj h _ ?_ ?_ ?_ ?_,gid.2,(by grind)⟩
 ·intro x hx;rcases mem_cons.1 hx with rfl | hx
  ·have hE:=h.store er hmr;unfold AN at hE ⊢;rw [m_]at hE;obtain⟨c1,v2,c2,c3⟩:=hE;refine⟨c1,v2,by grind,?_⟩;rcases c3 with ⟨p,c3,c4,c5⟩ | ⟨b',cap,cur,e1,e2,e3,e4,e5,e6,e7⟩
   ·grind
   ·exact .inr ⟨b',cap,cur,e1,by grind,e3,e4,e5,e6,Ai.mono t.keeps _ _ _ (hno _ hpc) (fun _=>rfl) e7⟩
  ·simp only [mem_map,mem_filter,and_eq_true,bne_iff_ne]at hx;obtain⟨y,⟨hy,h1,h2⟩,rfl⟩:=hx;exact t.ent h hy (hp y hy h1 h2).1 rfl
 ·intro x hx;rcases mem_cons.1 hx with rfl | hx
  ·refine⟨hmk,fun _=>⟨rfl,rfl,fun k E2 n2 aag cs2 hk=>?_⟩⟩;have:=all_eq_true.1 hn _ (List.mem_of_getElem? hk);cases this
  ·simp only [mem_map,mem_filter,and_eq_true,bne_iff_ne]at hx;obtain⟨y,⟨hy,h1,h2⟩,rfl⟩:=hx;exact t.deep h hy (hp y hy h1 h2).1 rfl (hp y hy h1 h2).2
 ·intro x hx;rcases mem_cons.1 hx with rfl | hx
  ·grind
  ·simp only [mem_map,mem_filter]at hx;obtain⟨y,⟨hy,_⟩,rfl⟩:=hx;exact M9 (h.k_ y hy)
 ·rw [map_cons];refine nodup_cons.2 ⟨?_,?_⟩
  ·simp only [map_map,mem_map,mem_filter,Function.comp,Ar.j_,not_exists,not_and,and_eq_true,bne_iff_ne];grind
  ·simp only [map_map,Function.comp_def,Ar.j_];exact List.Sublist.nodup (by grind [filter_sublist]) h.nodup
theorem R.ag_ (h:R F st a w G) {r id:Ad} {er:Ar} (hr:st.look r=some er) {E:TypeId} {n len:Nat} (m_:er.row=some (E,n,len)) (hpr:er.pu=true) (hn:er.cs.all hZ=true) (hd:DF id=true) (hmk:Cf id=false):
 ∃ G',R F (st.a_ (fun i=>i==r||(i==id||C4 id i)) (⟨id,some (E,n,len),er.cs,true⟩::((st.so.filter (fun d=>d.id != r&&d.id != id)).map (Ar.a_ (fun i=>i==r||(i==id||C4 id i)))))) a w G'/\G'.own id=G.own r:=by
 obtain⟨G',q1,q2,_⟩:=h.afY hr m_ hpr hn hd hmk;grind
theorem qp (h:R F st a w G) (id:Ad) (nb:Option Nat) (nv:Option Value) (ho:DD w w') (hs:w.heap.size<=w'.heap.size) (aad: ∀ b,b<w.heap.size->(G.blk id ≠ some b)->w'.heap[b]? =w.heap[b]?)
 (ag3: ∀ b,b<F.w0.heap.size-> ¬F.Tc b->w'.heap[b]? =w.heap[b]?)
 (hn: ∀ b,nb=some b->(w.heap.size<=b\/(G.blk id=some b/\BU w w' b))/\b<w'.heap.size):aaL F (· ==id) (· ==id) G (Bv F G id nb nv) w w' where
 agree:=(by grind [Bv])
 same:=fun i b hi hb=>aad b (h.lt i b hb) (fun q=>by have:=h.inj i id b hb q;grind)
 keeps:=h.keeps id nb nv hs aad (by grind)
 outer:=ho
 ext:=ag3
 wr:=fun b=>Iff.rfl
 inj:=by
  intro i j b hi hj;simp only [Bv]at hi hj;split at hi<;>split at hj
  ·simp_all
  ·rename_i q1 q2;rcases (hn b hi).1 with q | q
   ·exact absurd (h.lt j b hj) (by omega)
   ·exact absurd (h.inj j id b hj q.1) q2
  ·rename_i q1 q2;rcases (hn b hj).1 with q | q
   ·exact absurd (h.lt i b hi) (by omega)
   ·exact absurd (h.inj i id b hi q.1) q1
  ·exact h.inj i j b hi hj
 lt:=by
  intro i b hi;simp only [Bv]at hi;split at hi
  ·grind
  ·exact Nat.lt_of_lt_of_le (h.lt i b hi) hs
 new:=by
  intro i b hi;simp only [Bv]at hi;split at hi
  ·rcases (hn b hi).1 with q | q
   ·grind
   ·exact h.new id b q.1
  ·exact h.new i b hi
theorem R.acH (h:R F st a w G) {id:Ad} {e:Ar} (hl:st.u_ id=some e) {E n len m:Nat} (m_:e.row=some (E,n,len))
 {v v':Value} {xs us:List Value} {cs:List C} (hob:v.ownBlock=G.blk id) (h1:Ae w G e.cs xs) (h2:Ae w G cs us) (hxc: ∀ b j u,G.blk id=some b->xs[j]? =some u->w.cell? ⟨b,j,none⟩=some u)
 (hold:w.ownsRow 0 E n v len xs) (J_:w'.ownsRow 0 E n v' (len+m) (xs++us)) (hg:w.grownBy w' v.ownBlock) (hfr:v'.ownBlock=v.ownBlock\/ ∀ b,v'.ownBlock=some b->w.heap.size<=b)
 (hp:Al cs=true) (hn:cs.all hZ=true):
 R F (st.a_ (· ==id) ((st.so.map (Ar.a_ (· ==id))).map (C_ id (some (E,n,len+m)) (e.cs++cs)))) a w' (Bv F G id v'.ownBlock (some v'))/\v'.oneCell'=true:=by
 obtain⟨hm,hid,hd,hmk,hpu,hpe,hi,_⟩:=h.W_ hl;have aad: ∀ b,b<w.heap.size->G.blk id ≠ some b->w'.heap[b]? =w.heap[b]? :=fun b hb n_=>hg.block b hb (by grind);have hnb: ∀ b,v'.ownBlock=some b->w.heap.size<=b\/(G.blk id=some b/\BU w w' b):=by
  intro b hb;rcases hfr with q | q
  ·refine .inr ⟨by grind,?_⟩;have hb2:v.ownBlock=some b:=by grind
   intro cur T fz hc;rcases J_.2 with ⟨r,_⟩ | ⟨g,cap,acb,r,_,r2,_⟩
   ·rw [r]at hb;cases hb
   ·rw [r]at hb;simp only [Value.ownBlock,Option.some.injEq]at hb;subst hb;rcases hold.2 with ⟨r3,_⟩ | ⟨g3,ams,amr,r3,_,r4,_⟩
    all_goals grind [Value.ownBlock]
  grind
 have Tw: ∀ b,v'.ownBlock=some b->b<w'.heap.size:=fun b hb=>(J_.lt b hb).2;have aa3:v'.oneCell'=true:=by rcases J_.2 with ⟨q,_⟩ | ⟨g,cap,cur,q,_⟩<;>rw [q]<;>rfl
 have t:=qp h id v'.ownBlock (some v') ⟨hg.os,hg.tape,hg.output⟩ hg.size aad (fun b hb aiy=>by
  refine aad b (Nat.lt_of_lt_of_le hb h.hsize) (fun q=>?_);rcases h.new id b q with q2 | q2
  all_goals grind) (by grind)
 have hpx:Al (e.cs++cs)=true:=by rw [Bl,hpe,hp];rfl
 have hl1:=h1.length;have hl2:=h2.length;have hln:=J_.1;have hno: ∀ cs:List C,Al cs=true->GJ (fun i=>Bm i cs=true) G (Bv F G id v'.ownBlock (some v')):=fun cs hp i M_=>absurd (show Bm i cs=true from M_) (by rw [AL i cs hp];simp);have gid:(Bv F G id v'.ownBlock (some v')).blk id=v'.ownBlock/\(Bv F G id v'.ownBlock (some v')).own id=some v':=by simp [Bv]
 have gj: ∀ j,(Bv F G id v'.ownBlock (some v')).blk (Bi j id)=G.blk (Bi j id)/\(Bv F G id v'.ownBlock (some v')).own (Bi j id)=G.own (Bi j id):=fun j=>t.agree _ (by grind [BV]);have aca:AN w' (Bv F G id v'.ownBlock (some v')) ⟨id,some (E,n,len+m),e.cs++cs,true⟩:=by
  unfold AN;refine⟨by grind,v',gid.2,?_⟩;rcases J_.2 with ⟨q,h0⟩ | ⟨g,cap,cur,q,_,q2,q3,q4,q5,q6⟩
  ·exact .inl ⟨none,q,h0,by rw [gid.1,q];rfl⟩
  ·refine .inr ⟨g,cap,cur,q,by rw [gid.1,q];rfl,q2,q3,q4,q5,?_⟩;refine Ai.U_ (vs:=xs++us) (Ae.mono t.keeps _ _ (hno _ hpx) (h1.append h2)) ?_;grind [Bp,take_append_drop]
 have hin:Dw w' (Bv F G id v'.ownBlock (some v')) ⟨id,some (E,n,len+m),e.cs++cs,true⟩:=by
  intro j E2 n2 aag cs2 hj;simp only at hj;have hj2:e.cs[j]? =some (.isl E2 n2 aag cs2):=by
   by_cases q:j<e.cs.length
   ·grind
   ·rw [getElem?_append_right (by omega)]at hj;have:=all_eq_true.1 hn _ (List.mem_of_getElem? hj);cases this
  have hjl:j<e.cs.length:=(by grind);obtain⟨k1,k2,b2,v2,k3,k4,k5⟩:=h.inner hl hj2;have hxj:xs[j]? =some v2:=by grind
  refine⟨k1,BN t.keeps (hno _ k1) (gj j) (fun b hb=>aad b (h.lt _ b hb) (fun q=>BV hmk j (h.inj _ _ b q hb))) k2,?_⟩;rcases J_.2 with ⟨q,h0⟩ | ⟨g,cap,cur,q,_,q2,q3,q4,q5,q6⟩
  ·grind
  ·refine⟨g,v2,by rw [gid.1,q];rfl,?_,by grind⟩;have hr:=Bp q2 (us:=xs++us) (rest:=cur.toList.drop ((len+m)*n)) (by rw [<-q6,take_append_drop]);have:=hr j v2 (by grind);grind
 have E_:=t.afx h hl (fun _=>true) (by grind [BV]) rfl aca hin hpx;rw [HU]at E_;exact⟨t.acj h _ E_.1 E_.2.1 E_.2.2.1 E_.2.2.2,aa3⟩
def My:C->C
 | .isl _ _ len cs=> .sl len cs
 | c=>c
def pF (id i:Ad):Bool:=i==id||C4 id i
def PR (id:Ad) (len:Nat) (cells:List C):C->C
 | .l_ i=>match i==id with
   | true=> .sl len cells
   | false=>BJ (pF id) (.l_ i)
 | c=>BJ (pF id) c
def Mz (id:Ad) (len:Nat) (cells:List C):V->V
 | .c x=> .c (PR id len cells x)
 | .agg cs=> .agg (cs.map (PR id len cells))
 | v=>A9 (pF id) v
def Ar.frD (id:Ad) (len:Nat) (cells:List C) (e:Ar):Ar:=match e with
 | ⟨i,r,cs,true⟩=>⟨i,r,cs,true⟩
 | ⟨i,r,cs,false⟩=>⟨i,r,cs.map (PR id len cells),false⟩
def St.frD (st:St) (id:Ad) (len:Nat) (cells:List C):St:={tm:=st.tm.map (Mz id len cells),so:=(st.so.filter (fun d=>d.id != id)).map (Ar.frD id len cells),gh:=st.gh.map (Mz id len cells),pre:=st.pre}
theorem SC {id:Ad} {len:Nat} {cells:List C} {c:C} (h: ∀ i,c= .l_ i->i ≠ id):PR id len cells c=BJ (pF id) c:=by
 cases c<;>simp only [PR]
 grind
theorem lD {id:Ad} {len:Nat} {cells:List C}:PR id len cells (.l_ id)= .sl len cells:=by simp only [PR,beq_self_eq_true]
theorem TZ {id:Ad} {len:Nat} {cells:List C} (hk:BE G G' w w') (ha: ∀ i,pF id i=false->G'.blk i=G.blk i/\G'.own i=G.own i) (ho: ∀ v,G.own id=some v->Ab w' G' (.sl len cells) v) {c:C} {v:Value} (h:Ab w G c v):Ab w' G' (PR id len cells c) v:=by
 by_cases hc:c= .l_ id
 ·grind [lD,Ab]
 ·rw [SC (fun i q hi=>hc (by rw [q,hi]))];exact Ab.mono hk _ _ (fun i hi=>ha i (TW hi)) (TY h)
theorem cY {id:Ad} {len:Nat} {cells:List C} (hk:BE G G' w w') (ha: ∀ i,pF id i=false->G'.blk i=G.blk i/\G'.own i=G.own i) (ho: ∀ v,G.own id=some v->Ab w' G' (.sl len cells) v): ∀ {cs:List C} {vs:List Value},Ae w G cs vs->Ae w' G' (cs.map (PR id len cells)) vs
 | [],[],_=>by simp [Ae]
 | [],_::_,h=>by simp [Ae]at h
 | _::_,[],h=>by simp [Ae]at h
 | c::cs,v::vs,h=>by simp only [Ae,map_cons]at h ⊢;exact⟨TZ hk ha ho h.1,cY hk ha ho h.2⟩
theorem cZ {id:Ad} {len:Nat} {cells:List C} (hk:BE G G' w w') (ha: ∀ i,pF id i=false->G'.blk i=G.blk i/\G'.own i=G.own i) (ho: ∀ v,G.own id=some v->Ab w' G' (.sl len cells) v) {x:V} {v:Value} (h:Aa w G x v):Aa w' G' (Mz id len cells x) v:=by
 cases x with
 | c x=>grind [Mz,Aa,TZ]
 | agg cs=>
   grind [Mz,Aa,cY]
 | tup vs=>exact Aa.mono hk _ _ (fun i hi=>ha i (GY hi)) (GZ h)
 | g b x=>exact Aa.mono hk _ _ (fun i hi=>ha i (GY hi)) (GZ h)
 | undef=>exact Aa.mono hk _ _ (fun i hi=>ha i (GY hi)) (GZ h)
theorem XP {id:Ad} {len:Nat} {cells:List C} (hk:BE G G' w w') (ha: ∀ i,pF id i=false->G'.blk i=G.blk i/\G'.own i=G.own i) (ho: ∀ v,G.own id=some v->Ab w' G' (.sl len cells) v): ∀ {xs:List V} {vs:List Value},Ao w G xs vs->Ao w' G' (xs.map (Mz id len cells)) vs
 | [],vs,h=>by simpa [Ao] using h
 | x::xs,vs,h=>by simp only [Ao,map_cons]at h ⊢;obtain⟨v,r,e,h1,h2⟩:=h;exact⟨v,r,e,cZ hk ha ho h1,XP hk ha ho h2⟩
theorem Na {id:Ad} {len:Nat} {cells:List C} (hk:BE G G' w w') (ha: ∀ i,pF id i=false->G'.blk i=G.blk i/\G'.own i=G.own i) (ho: ∀ v,G.own id=some v->Ab w' G' (.sl len cells) v): ∀ {cs:List C} {b o:Nat},(∀ o,w'.cell? ⟨b,o,none⟩=w.cell? ⟨b,o,none⟩)->Ai w G cs b o->Ai w' G' (cs.map (PR id len cells)) b o
 | [],_,_,_,_=>by grind [Ai]
 | c::cs,b,o,hc,h=>by simp only [Ai,map_cons]at h ⊢;obtain⟨⟨v,h1,h2⟩,h3⟩:=h;exact⟨⟨v,by rw [hc];exact h1,TZ hk ha ho h2⟩,Na hk ha ho hc h3⟩
theorem ve {f:C->C}: ∀ {cs:List C} {b o:Nat},(∀ k c,cs[k]? =some c-> ∃ v,w.cell? ⟨b,o+k,none⟩=some v/\Ab w G (f c) v)->Ai w G (cs.map f) b o
 | [],_,_,_=>by grind [Ai]
 | c::cs,b,o,h=>by simp only [Ai,map_cons];refine⟨by simpa using h 0 c (by simp),ve (fun k c' hc=>?_)⟩;have:=h (k+1) c' (by simpa using hc);rw [show o+1+k=o+(k+1) by omega];exact this
theorem R.aia (h:R F st a w G) {id:Ad} {e:Ar} (hl:st.u_ id=some e) {E:TypeId} {n len:Nat} (m_:e.row=some (E,n,len)) {cells:List C} (hcs:e.cs.map My=cells): ∃ G',R F (st.frD id len cells) a w G':=by
 subst hcs;obtain⟨hm,hid,hd,hmk,hpu,hpe,hi,_⟩:=h.W_ hl;let G':Ax:=⟨fun i=>if pF id i=true then none else G.blk i,fun i=>if pF id i=true then none else G.own i,fun b=>F.av b\/ ∃ i,(if pF id i=true then none else G.blk i)=some b⟩;have hag: ∀ i,pF id i=false->G'.blk i=G.blk i/\G'.own i=G.own i:=(by grind);have t:aaL F (pF id) (fun _=>false) G G' w w:=EV h G' rfl hag (by grind) (fun i j b hib hjb=>by
  simp only [G']at hib hjb;split at hib
  ·cases hib
  ·split at hjb
   ·cases hjb
   ·exact h.inj _ _ b hib hjb)
 have hno: ∀ cs:List C,Al cs=true->GJ (fun i=>Bm i cs=true) G G':=fun cs hp i M_=>absurd (show Bm i cs=true from M_) (by rw [AL i cs hp];simp);have hnw: ∀ i b,pF id i=true->G.blk i=some b-> ¬G'.wr b:=by
  intro i b hp hb hw;simp only [G']at hw;rcases hw with q | ⟨j,q⟩
  ·rcases h.new i b hb with q2 | q2
   ·have:=h.Tu b q;omega
   ·exact h.Kq b q2 q
  ·split at q
   ·cases q
   ·rename_i hj;exact hj (by rw [h.inj j i b q hb];exact hp)
 have aog:pF id id=true:=by simp [pF]
 have aod: ∀ k,pF id (Bi k id)=true:=fun k=>by simp [pF,FR]
 have aah: ∀ (b:Nat),G.blk id=some b-> ∀ k c,e.cs[k]? =some c-> ∀ v,w.cell? ⟨b,k,none⟩=some v->Ab w G c v->(My c).pure =true/\Ab w G' (My c) v:=by
  intro b hb k c hk v hv hr;have hpc:c.pure=true:=by grind [By]
  by_cases hc: ∃ E n l cs,c= .isl E n l cs
  ·obtain⟨E2,n2,l2,cs2,rfl⟩:=hc;obtain⟨k1,k2,b2,v2,k3,k4,k5⟩:=h.inner hl hk;rw [hb]at k3;injection k3 with k3;subst k3;rw [hv]at k4;injection k4 with k4;subst k4;refine⟨rfl,?_⟩;simp only [My,Ab];unfold AN at k2;obtain⟨c1,v2,c2,c3⟩:=k2;rw [show (⟨Bi k id,some (E2,n2,l2),cs2,true⟩:Ar).id =Bi k id from rfl,k5]at c2;injection c2 with c2;subst c2;refine⟨k1,?_⟩;rcases c3 with ⟨p,rfl,rfl,_⟩ | ⟨b',cap,cur,rfl,e2,e3,e4,e5,e6,e7⟩
   ·grind
   ·refine⟨_,cap,rfl,e4,e5,fun h0=>?_, .inr ⟨b',0,rfl,hnw _ b' (aod k) e2,h.lt _ b' e2,Ai.mono t.keeps _ _ _ (hno _ k1) (fun _=>rfl) e7⟩⟩;simp_all
  ·have:My c=c:=by cases c<;>first | rfl | grind
   rw [this];exact⟨hpc,Ab.mono t.keeps _ _ (fun i M_=>absurd (show c.g_ i=true from M_) (by rw [Fo i c hpc];simp)) hr⟩
 have ho: ∀ v,G.own id=some v->Ab w G' (.sl len (e.cs.map My)) v:=by
  intro v hv;have hE:=h.store e hm;unfold AN at hE;rw [m_]at hE;obtain⟨c1,v1,c2,c3⟩:=hE;rw [hid,hv]at c2;injection c2 with c2;subst c2;rcases c3 with ⟨p,rfl,rfl,c5⟩ | ⟨b,cap,cur,rfl,e2,e3,e4,e5,e6,e7⟩
  ·have:e.cs=[]:=by grind
   rw [this];simp only [Ab];grind
  ·rw [hid]at e2;obtain⟨vs,r1,r2⟩:=e7.list;have hl1:=r1.length;have hat: ∀ k c,e.cs[k]? =some c-> ∃ v,w.cell? ⟨b,k,none⟩=some v/\Ab w G c v:=by intro k c hk;obtain⟨u,hu,hr⟩:=r1.get k c hk;exact⟨u,by simpa using r2 k u hu,hr⟩
   have alK:Al (e.cs.map My)=true:=by rw [By,all_eq_true];intro c hc;obtain⟨d,hd,rfl⟩:=mem_map.1 hc;obtain⟨k,hk,rfl⟩:=mem_iff_getElem.1 hd;obtain⟨u,q1,q2⟩:=hat k _ (List.getElem?_eq_getElem hk);grind
   simp only [Ab];refine⟨alK,_,cap,rfl,e4,e5,fun h0=>?_, .inr ⟨b,0,rfl,hnw id b aog e2,h.lt id b e2,ve (fun k c hk=>?_)⟩⟩
   ·simp_all
   grind
 have aoN: ∀ d:Ar,(d.frD id len (e.cs.map My)).id =d.id:=fun d=>by obtain⟨i,r,cs,_ | _⟩:=d<;>rfl
 have hpn: ∀ d∈st.so,d.id ≠ id->pF id d.id=false/\(DF d.id=true-> ∀ k,pF id (Bi k d.id)=false):=by
  intro d Y_ h2;refine⟨?_,fun _ k=>?_⟩
  ·unfold pF;rw [show (d.id==id)=false by simpa using h2,Bool.false_or];cases hq:C4 id d.id with
   | false=>rfl
   | true=>
     have:=En hq;rw [(h.deep d Y_).1]at this;cases this
  ·unfold pF;rw [show (Bi k d.id==id)=false by simpa using (BV hmk k).symm,Bool.false_or,FR];grind
 refine⟨G',t.rel h _ (by simp [St.frD]) (fun i=>?_) ?_ ?_ ?_ ?_ ?_⟩
 ·simp only [St.frD];rw [D7 (by simp [Mz,A9,V.c_])];exact cZ t.keeps hag ho (h.slots i)
 ·exact XP t.keeps hag ho h.t_
 ·intro x hx;simp only [St.frD,mem_map,mem_filter,bne_iff_ne]at hx;obtain⟨d,⟨Y_,n_⟩,rfl⟩:=hx;have hE:=h.store d Y_;have hgd:=hag d.id (hpn d Y_ n_).1;have hpd:=h.k_ d Y_;obtain⟨i,r,ds,pu⟩:=d;cases pu with
  | true=>exact BN t.keeps (hno _ (hpd rfl)) hgd (fun _ _=>rfl) hE
  | false=>
    unfold AN at hE ⊢;cases r with
    | none=>
      obtain⟨b,h1,h2⟩:=hE;refine⟨b,by grind,?_⟩;rcases h2 with ⟨kv,es,h2,h3⟩ | ⟨T,cur,h2,h3,h4⟩
      ·dsimp only [Ar.frD]at h2 ⊢;rw [h2];exact .inl ⟨kv,es,by simp [PR,BJ,C.c_],h3⟩
      ·exact .inr ⟨T,cur,h2,by simpa [Ar.frD] using h3,Na t.keeps hag ho (fun _=>rfl) h4⟩
    | some q=>
      obtain⟨E',n',aaA⟩:=q;obtain⟨hl',v,h1,h2⟩:=hE;refine⟨by grind [Ar.frD],v,by grind,?_⟩;rcases h2 with ⟨p,e1,e2,e3⟩ | ⟨b,cap,cur,e1,e2,e3,e4,e5,e6,e7⟩
      ·grind
      ·exact .inr ⟨b,cap,cur,e1,by grind,e3,e4,e5,e6,Na t.keeps hag ho (fun _=>rfl) e7⟩
 ·intro x hx;simp only [St.frD,mem_map,mem_filter,bne_iff_ne]at hx;obtain⟨d,⟨Y_,n_⟩,rfl⟩:=hx;have hD:=h.deep d Y_;have hD2:A8 w G (d.frD id len (e.cs.map My)):=by
   obtain⟨i,r,cs,pu⟩:=d;cases pu with
   | true=>exact hD
   | false=>exact⟨hD.1,fun hq=>absurd (hD.2 hq).1 (by simp)⟩
  refine A8.mono t.keeps (by grind) (fun hq k=>?_) (fun _ _=>rfl) (fun _ _ _ _=>rfl) hD2;grind
 ·intro x hx;simp only [St.frD,mem_map,mem_filter]at hx;obtain⟨d,⟨Y_,_⟩,rfl⟩:=hx;have:=h.k_ d Y_;obtain⟨i,r,cs,pu⟩:=d;cases pu with
  | true=>exact this
  | false=>intro hq;cases hq
 ·simp only [St.frD,map_map,Function.comp_def,aoN];exact List.Sublist.nodup (by grind [filter_sublist]) h.nodup
end
end Go.PL
namespace Go.PL
open Go Go.RowKit
inductive DS where
 | ld (E:TypeId) (n len:Nat) (cs:List C)
 | ix (E:TypeId) (n len:Nat) (cs:List C)
 | rd (E:TypeId) (n len:Nat) (cs:List C) (u:V)
 | ln (E:TypeId) (n len:Nat) (cs:List C)
 | st (E:TypeId) (n len ln:Nat) (cs cells:List C)
 | ps (cells:List C)
 | ab (cells:List C)
 | lx (E:TypeId) (n len:Nat) (cs:List C)
 | nw (t:Option (Nat×List C))
 | bs
 | aa (len:Nat) (cells:List C)
section
variable {F:Fr} {st:St} {a:Act} {w:World} {G:Ax}
theorem R.v_ (h:R F st a w G) {e:Ar} {id:Ad} (he:e∈st.so) (hid:e.id=id) (hd:DF id=true):st.u_ id=some e:=by
 unfold St.u_;cases hf:st.so.find? (fun e=>e.id==id&&DF e.id)with
 | none=>
   grind
 | some x=>
   have h1:=List.mem_of_find?_eq_some hf;have h2:=find?_some hf;simp only [and_eq_true,beq_iff_eq]at h2;rw [h.uniq h1 he (h2.1.trans hid.symm)]
theorem R.abt (h:R F st a w G) {e:Ar} {id:Ad} (he:e∈st.so) (hid:e.id=id) (hd:DF id=false) (hr:e.row.isSome=true):st.look id=some e:=by
 have hM:e.isM=false:=by grind [Ar.isM]
 unfold St.look;cases hf:st.so.find? (fun e=>e.id==id&& !(e.isM||DF e.id))with
 | none=>
   grind
 | some x=>
   have h1:=List.mem_of_find?_eq_some hf;have h2:=find?_some hf;simp only [and_eq_true,beq_iff_eq]at h2;rw [h.uniq h1 he (h2.1.trans hid.symm)]
theorem R.aci (h:R F st a w G) {d:Nat} {x:V} (hx:Aa w G x (a.tmps.getD d Go.undef)):R F (st.put (some d) x) a w G:={
 dfr:=h.dfr
 size:=by simp [St.put,h.size]
 slots:=fun i=>by
  simp only [St.put,List.getD_eq_getElem?_getD,getElem?_set];by_cases hi:d=i
  ·subst hi;by_cases hl:d<st.tm.length
   ·grind
   ·rw [if_pos rfl,if_neg hl,Option.getD_none];simp only [Aa]
  ·rw [if_neg hi];have:=h.slots i;grind
 t_:=h.t_,store:=h.store,deep:=h.deep,k_:=h.k_,nodup:=h.nodup
 inj:=h.inj,lt:=h.lt,new:=h.new,wr:=h.wr,Tu:=h.Tu,inv:=h.inv,Kq:=h.Kq,os:=h.os,tape:=h.tape,output:=h.output,hsize:=h.hsize,ext:=h.ext}
end
section
variable {P:Program} {I:World->Prop} {o:Oper} {st an:St} {K:St->Prop} {F:Fr} {a:Act} {w:World} {G:Ax}
theorem N5 (h:R F st a w G) {x:Operand} (hl:A0 (AK st true x).1):Aa w G (AK st true x).2 (a.eval x):=by obtain⟨h1,h2⟩:=LZ hl;rw [<-h2];exact h.arg rfl h1
def dLd (P:Program) (st:St) (o:Oper) (E n len:Nat) (cs:List C):Option (List Prop×St):=match o.op with
 | .load T x=>match (AK st true x).2,FW P T with
   | .c (.ptr id k),some (ag,n')=>match !ag&&Nat.beq n' 1,st.u_ id with
     | true,some e=>some ((AK st true x).1++[e.cs[k]? =some (.isl E n len cs)],st.put o.dst (.c (.l_ (1000007::k::id))))
     | _,_=>none
   | _,_=>none
 | _=>none
theorem vf {E n len:Nat} {cs:List C} {l:List Prop} (h:dLd P st o E n len cs=some (l,an)) (hl:A0 l) (hK:K an):El P I o st K:=by
 unfold dLd at h;split at h
 ·rename_i T x ho;split at h
  ·rename_i id k ag n' hx ht;split at h
   ·rename_i e hb he;simp only [Option.some.injEq,injEq]at h;obtain⟨rfl,rfl⟩:=h;obtain⟨q1,q2,_⟩:=Af.1 hl;intro F a w G Q hI hR;have H_:=N5 hR q1;rw [hx]at H_;simp only [Aa,Ab]at H_;obtain⟨b,hb1,hv⟩:=H_;obtain⟨_,hE,b2,v,k3,k4,k5⟩:=hR.inner he q2;rw [hb1]at k3;injection k3 with k3;subst k3;simp only [and_eq_true,not_eq_true']at hb;obtain⟨d,i,hu,hd,_⟩:=Bw ht;have aa3:v.oneCell'=true:=by unfold AN at hE;obtain⟨_,v2,c2,c3⟩:=hE;rw [show (⟨Bi k id,some (E,n,len),cs,true⟩:Ar).id =Bi k id from rfl,k5]at c2;injection c2 with c2;subst c2;rcases c3 with ⟨p,rfl,_⟩ | ⟨b',cap,cur,rfl,_⟩<;>rfl
    have h_:(execOp a.eval o).run P w= .ok (.value v) w:=by simp_all [execOp,Cv]
    exact Au h_ ⟨_,G,hK,hR.put (by simp only [Aa,Ab];exact⟨k5,aa3⟩)⟩
   ·cases h
  ·cases h
 ·cases h
def dIx (P:Program) (st:St) (o:Oper) (E n len:Nat) (cs:List C):Option (List Prop×St):=match o.op with
 | .indexAddr t x y=>match (AK st true x).2,(AK st true y).2,Ck P t with
   | .c (.l_ (m::k::id)), .c (.int _ i),some (_,n')=>match Nat.beq m 1000007&&Nat.beq n' n,st.u_ id with
     | true,some e=>some (((AK st true x).1++(AK st true y).1)++[e.cs[k]? =some (.isl E n len cs),0<=i/\i<(len:Int)],st.put o.dst (.c (.ptr (m::k::id) (i.toNat*n'))))
     | _,_=>none
   | _,_,_=>none
 | _=>none
theorem vg {E n len:Nat} {cs:List C} {l:List Prop} (h:dIx P st o E n len cs=some (l,an)) (hl:A0 l) (hK:K an):El P I o st K:=by
 unfold dIx at h;split at h
 ·rename_i t x y ho;split at h
  ·rename_i m k id ki i E' n' hx hy ht;split at h
   ·rename_i e hb he;simp only [Option.some.injEq,injEq]at h;obtain⟨rfl,rfl⟩:=h;obtain⟨q1,q2,q3,_⟩:=Af.1 hl;obtain⟨q1,q1'⟩:=Af.1 q1;intro F a w G Q hI hR;have H_:=N5 hR q1;have hyv:=N5 hR q1';rw [hx]at H_;rw [hy]at hyv;simp only [Aa,Ab]at H_ hyv;simp only [and_eq_true]at hb;have hm:=eq_of_beq_eq_true hb.1;subst hm;obtain⟨_,hE,_⟩:=hR.inner he q2;unfold AN at hE;obtain⟨_,v2,c2,c3⟩:=hE;rw [show (⟨Bi k id,some (E,n,len),cs,true⟩:Ar).id =Bi k id from rfl,show Bi k id=1000007::k::id from rfl,H_.1]at c2;injection c2 with c2;rcases c3 with ⟨p,_,c4,_⟩ | ⟨b',cap,cur,c3,e2,_⟩
    ·omega
    ·have h_:(execOp a.eval o).run P w= .ok (.value (.pointer (some ⟨b',0+i.toNat*n',none⟩))) w:=by simp [execOp,ho,hyv,c2,c3,CD ht b' 0 len cap ki i q3.1 q3.2 w]
     exact Au h_ ⟨_,G,hK,hR.put (by simp only [Aa,Ab];exact⟨b',e2,by grind⟩)⟩
   ·cases h
  ·cases h
 ·cases h
def dRd (P:Program) (st:St) (o:Oper) (E n len:Nat) (cs:List C) (u:V):Option (List Prop×St):=match o.op with
 | .load T x=>match (AK st true x).2,FW P T with
   | .c (.ptr (m::k::id) off),some (ag,n')=>match Nat.beq m 1000007&&(ag||Nat.blt 0 n'),st.u_ id with
     | true,some e=>some ((AK st true x).1++[e.cs[k]? =some (.isl E n len cs),off+n'<=cs.length/\toV ag off n' cs=u],st.put o.dst u)
     | _,_=>none
   | _,_=>none
 | _=>none
theorem vh {E n len:Nat} {cs:List C} {u:V} {l:List Prop} (h:dRd P st o E n len cs u=some (l,an)) (hl:A0 l) (hK:K an):El P I o st K:=by
 unfold dRd at h;split at h
 ·rename_i T x ho;split at h
  ·rename_i m k id off ag n' hx ht;split at h
   ·rename_i e hb he;simp only [Option.some.injEq,injEq]at h;obtain⟨rfl,rfl⟩:=h;obtain⟨q1,q2,q3,_⟩:=Af.1 hl;intro F a w G Q hI hR;have H_:=N5 hR q1;rw [hx]at H_;simp only [Aa,Ab]at H_;obtain⟨b,hb1,hv⟩:=H_;simp only [and_eq_true,or_eq_true,Nat.blt_eq]at hb;have hm:=eq_of_beq_eq_true hb.1;subst hm;obtain⟨_,hE,_⟩:=hR.inner he q2;obtain⟨cur,T',_,_,m_⟩:=hE.row (fun q=>by cases q) hb1;obtain⟨v,r1,r2⟩:=SY (P:=P) m_ ht q3.1 hb.2;have h_:(execOp a.eval o).run P w= .ok (.value v) w:=by simp_all [Ca.refl,execOp]
    exact Au h_ ⟨_,G,hK,hR.put (by grind)⟩
   ·cases h
  ·cases h
 ·cases h
def dLn (P:Program) (st:St) (o:Oper) (E n len:Nat) (cs:List C):Option (List Prop×St):=match o.op with
 | .call c=>match c.callee,c.args.toList,c.argTypes.toList with
   | .builtin .len,[x],[t]=>match (AK st true x).2 with
     | .c (.l_ (m::k::id))=>match Nat.beq m 1000007&&Cl P t,st.u_ id with
       | true,some e=>some ((AK st true x).1++[e.cs[k]? =some (.isl E n len cs)],st.put o.dst (.c (.int .i64 len)))
       | _,_=>none
     | _=>none
   | _,_,_=>none
 | _=>none
theorem vi {E n len:Nat} {cs:List C} {l:List Prop} (h:dLn P st o E n len cs=some (l,an)) (hl:A0 l) (hK:K an):El P I o st K:=by
 unfold dLn at h;split at h
 ·rename_i c ho;split at h
  ·rename_i x t h1 h2 h3;split at h
   ·rename_i m k id hx;split at h
    ·rename_i e hb he;simp only [Option.some.injEq,injEq]at h;obtain⟨rfl,rfl⟩:=h;obtain⟨q1,q2,_⟩:=Af.1 hl;intro F a w G Q hI hR;have H_:=N5 hR q1;rw [hx]at H_;simp only [Aa,Ab]at H_;simp only [and_eq_true]at hb;have hm:=eq_of_beq_eq_true hb.1;subst hm;obtain⟨el,hel⟩:=BF hb.2;obtain⟨_,hE,_⟩:=hR.inner he q2;unfold AN at hE;obtain⟨_,v2,c2,c3⟩:=hE;rw [show (⟨Bi k id,some (E,n,len),cs,true⟩:Ar).id =Bi k id from rfl,show Bi k id=1000007::k::id from rfl,H_.1]at c2;injection c2 with c2;have hsl: ∃ p cap,a.eval x= .slice p len cap:=by grind
     obtain⟨p,cap,hsl⟩:=hsl;have ea:c.args= #[x]:=by grind
     have et:c.argTypes= #[t]:=by grind
     have h_:(execOp a.eval o).run P w= .ok (.value (.int .i64 len)) w:=by simp [execOp,ho,resolve,h1,ea,et,invoke,builtin,Builtin.len_,Sem.run_bind,run_underlying hel,goInt,hsl]
     exact Au h_ ⟨_,G,hK,hR.put (by simp only [Aa,Ab])⟩
    ·cases h
   ·cases h
  ·cases h
 ·cases h
theorem Db {T:TypeId} {ag:Bool} {n b off:Nat} {T':TypeId} {cur:Array Value} {v:Value} (ht:FW P T=some (ag,n)) (hh:w.heap[b]? =some (.cells cur T' (0,0))) (hl:v.cells.toList.length=n) (aeR:off+v.cells.toList.length<=cur.size) (aa3: ∀ u∈v.cells.toList,u.oneCell'=true):
 (Instr.storeAt T (.pointer (some ⟨b,off,none⟩)) v).run P w= .ok () (w.setRow b (cur.toList.take off++v.cells.toList++cur.toList.drop (off+v.cells.toList.length)).toArray):=by
 obtain⟨d,i,hu,hd,hi,Tr⟩:=Bw ht;have IN:=run_storeCells_at P b off T' v.cells.toList 0 cur w hh (by simpa using aeR) aa3;simp only [add_zero]at IN;simp_all [Instr.storeAt,Instr.sureAddr,storeVar,sizeOf,typeInfo]
theorem DY {w':World} {K:Act->World->Prop} {Q:Exit->Act->World->Prop} (hr:(execOp a.eval o).run P w= .ok .skip w') (h:K (a.put o.dst Go.undef) w'):o.wp P a w K Q:=by grind [Oper.wp,Oper.upon]
def c9 (len:Nat):Option (TypeId×Nat×Nat)->Option (TypeId×Nat×Nat)
 | some (E,n,_)=>some (E,n,len)
 | none=>none
def dSt (P:Program) (st:St) (o:Oper) (E n len ln:Nat) (cs cells:List C):Option (List Prop×St):=match o.op with
 | .store T x y=>match o.dst,(AK st true x).2,(AK st true y).2.cells,FW P T with
   | none, .c (.ptr (m::k::id) off),some xs,some (_,n')=>match Nat.beq m 1000007&&(Nat.beq xs.length n'&&Al xs),st.u_ id with
     | true,some e=>some (((AK st true x).1++(AK st true y).1)++[e.cs[k]? =some (.isl E n len cs),off+n'<=cs.length/\e.cs.set k (.isl E n len (cs.take off++xs++cs.drop (off+xs.length)))=cells,c9 ln e.row=e.row],st.ab8 id (c9 ln e.row) cells)
     | _,_=>none
   | _,_,_,_=>none
 | _=>none
theorem vj {E n len ln:Nat} {cs cells:List C} {l:List Prop} (h:dSt P st o E n len ln cs cells=some (l,an)) (hl:A0 l) (hK:K an):El P I o st K:=by
 unfold dSt at h;split at h
 ·rename_i T x y ho;split at h
  ·rename_i m k id off xs ag n' abR hx hy ht;split at h
   ·rename_i e hb he;simp only [Option.some.injEq,injEq]at h;obtain⟨rfl,rfl⟩:=h;obtain⟨q1,q2,q3,q4,_⟩:=Af.1 hl;rw [q4]at hK;obtain⟨q1,q1'⟩:=Af.1 q1;intro F a w G Q hI hR;have H_:=N5 hR q1;have hyv:=N5 hR q1';rw [hx]at H_;simp only [Aa,Ab]at H_;obtain⟨b,hb1,hv⟩:=H_;simp only [and_eq_true]at hb;have hm:=eq_of_beq_eq_true hb.1;have hn:=eq_of_beq_eq_true hb.2.1;subst hm;have hc:=GQ hyv hy;have hlc:=hc.length;obtain⟨cur,T',r1,r2,r3⟩:=hR.ac2 he q2 (show G.blk (Bi k id)=some b from hb1) (off:=off) hc (by omega) hb.2.2;rw [q3.2]at r3;have hs:=Db (P:=P) ht r1 (by omega) r2 (Ae.one hc);generalize w.setRow b _=w1 at hs r3;have h_:(execOp a.eval o).run P w= .ok .skip w1:=by simp_all [execOp]
    exact DY h_ (by rw [abR];exact⟨_,G,hK,r3⟩)
   ·cases h
  ·cases h
 ·cases h
theorem iG {x:V} {v:Value} (h:Aa w G x v):Aa w G x.acv v:=by cases x<;>grind [V.acv,Aa,Gv,PJ]
def dPs (P:Program) (st:St) (o:Oper) (cells:List C):Option (List Prop×St):=match o.op with
 | .store T x y=>match o.dst,(AK st true x).2,(AK st true y).2.acv.cells,FW P T with
   | none, .c (.ptr id off),some xs,some (_,n')=>match (Nat.beq xs.length n'&&Al xs)&&xs.all hZ,st.u_ id with
     | true,some e=>some (((AK st true x).1++(AK st true y).1)++[off+n'<=e.cs.length/\e.cs.take off++xs++e.cs.drop (off+xs.length)=cells],st.ab8 id e.row cells)
     | _,_=>none
   | _,_,_,_=>none
 | _=>none
theorem vk {cells:List C} {l:List Prop} (h:dPs P st o cells=some (l,an)) (hl:A0 l) (hK:K an):El P I o st K:=by
 unfold dPs at h;split at h
 ·rename_i T x y ho;split at h
  ·rename_i id off xs ag n' abR hx hy ht;split at h
   ·rename_i e hb he;simp only [Option.some.injEq,injEq]at h;obtain⟨rfl,rfl⟩:=h;obtain⟨q1,q2,_⟩:=Af.1 hl;obtain⟨q1,q1'⟩:=Af.1 q1;intro F a w G Q hI hR;have H_:=N5 hR q1;have hyv:=iG (N5 hR q1');rw [hx]at H_;simp only [Aa,Ab]at H_;obtain⟨b,hb1,hv⟩:=H_;simp only [and_eq_true]at hb;have hn:=eq_of_beq_eq_true hb.1.1;have hc:=GQ hyv hy;have hlc:=hc.length;obtain⟨cur,T',r1,r2,r3⟩:=hR.aa6 he hb1 (off:=off) hc (by omega) hb.1.2 hb.2;rw [q2.2]at r3;have hs:=Db (P:=P) ht r1 (by omega) r2 (Ae.one hc);generalize w.setRow b _=w1 at hs r3;have h_:(execOp a.eval o).run P w= .ok .skip w1:=by simp_all [execOp]
    exact DY h_ (by rw [abR];exact⟨_,G,hK,r3⟩)
   ·cases h
  ·cases h
 ·cases h
theorem nS {id:Ad} {row:Option (TypeId×Nat×Nat)} {c1 c2:List C} {p:Ad->Bool} (x:Ar):C_ id row c2 ((C_ id row c1 x).a_ p)=C_ id row c2 (x.a_ p):=by
 by_cases h:x.id=id
 all_goals grind [C3,Ar.j_,Ar.acD,C2]
def dAb (P:Program) (st:St) (o:Oper) (cells:List C):Option (List Prop×St):=match o.op with
 | .store T x y=>match o.dst,(AK st true x).2,(AK st true y).2,FW P T with
   | none, .c (.ptr id k), .c (.l_ r),some (ag,n')=>match !ag&&Nat.beq n' 1,st.u_ id,st.look r with
     | true,some e,some er=>match er.row,er.pu with
       | some (E,n,len),true=>some (((AK st true x).1++(AK st true y).1)++[k<e.cs.length/\e.cs.set k (.isl E n len er.cs)=cells],st.a_ (pD r id) (((st.so.filter (fun d=>d.id != r)).map (Ar.a_ (pD r id))).map (C_ id e.row cells)))
       | _,_=>none
     | _,_,_=>none
   | _,_,_,_=>none
 | _=>none
theorem vl {cells:List C} {l:List Prop} (h:dAb P st o cells=some (l,an)) (hl:A0 l) (hK:K an):El P I o st K:=by
 unfold dAb at h;split at h
 ·rename_i T x y ho;split at h
  ·rename_i id k r ag n' abR hx hy ht;split at h
   ·rename_i e er hb he her;split at h
    ·rename_i E n len m_ hpu;simp only [Option.some.injEq,injEq]at h;obtain⟨rfl,rfl⟩:=h;obtain⟨q1,q2,_⟩:=Af.1 hl;obtain⟨q1,q1'⟩:=Af.1 q1;intro F a w G Q hI hR;have H_:=N5 hR q1;have hyv:=N5 hR q1';rw [hx]at H_;rw [hy]at hyv;simp only [Aa,Ab]at H_ hyv;obtain⟨b,hb1,hv⟩:=H_;simp only [and_eq_true,not_eq_true']at hb;have hn:=eq_of_beq_eq_true hb.2;have hcl:(a.eval y).cells.toList =[a.eval y]:=by have:=hyv.2;cases hq:a.eval y<;>rw [hq]at this<;>first | rfl | cases this
     have hc:Ae w G [C.any] (a.eval y).cells.toList :=by simp_all [Ae,Ab]
     obtain⟨cur,T',r1,r2,r3⟩:=hR.aa6 he hb1 (off:=k) hc (by simp;omega) rfl rfl;have hs:=Db (P:=P) ht r1 (by rw [hcl];simp;omega) r2 (Ae.one hc);have aah:(w.setRow b (cur.toList.take k++(a.eval y).cells.toList ++cur.toList.drop (k+(a.eval y).cells.toList.length)).toArray).cell? ⟨b,k,none⟩=some (a.eval y):=by have:=setRow_heap w b cur (cur.toList.take k++(a.eval y).cells.toList ++cur.toList.drop (k+(a.eval y).cells.toList.length)).toArray T' (0,0) r1;grind [World.cell?,List.length_take]
     generalize w.setRow b _=w1 at hs r3 aah;have h_:(execOp a.eval o).run P w= .ok .skip w1:=by simp_all [execOp]
     obtain⟨hm,hid,hd⟩:=L3 he;obtain⟨hmr,acU⟩:=AZ her;have afu:=DP her;have aeN:r ≠ id:=(by grind);have hD:(st.ab8 id e.row (e.cs.take k++[C.any]++e.cs.drop (k+[C.any].length))).u_ id=some ⟨id,e.row,e.cs.take k++[C.any]++e.cs.drop (k+[C.any].length),e.pu⟩:=by refine r3.v_ ?_ rfl hd;grind [St.ab8,C3]
     have hL:(st.ab8 id e.row (e.cs.take k++[C.any]++e.cs.drop (k+[C.any].length))).look r=some er:=by refine r3.abt ?_ acU afu (by grind);grind [St.ab8,C2]
     have hk':k<(⟨id,e.row,e.cs.take k++[C.any]++e.cs.drop (k+[C.any].length),e.pu⟩:Ar).cs.length :=by simp;omega
     obtain⟨G',g1,_⟩:=r3.ahh hD hL m_ hpu hb1 aah hyv.1 hk'
     suffices ag2:R F (st.a_ (pD r id) (((st.so.filter (fun d=>d.id != r)).map (Ar.a_ (pD r id))).map (C_ id e.row cells))) a w1 G' from DY h_ (by rw [abR];exact⟨_,G',hK,ag2⟩)
     have e1:(e.cs.take k++[C.any]++e.cs.drop (k+[C.any].length)).set k (.isl E n len er.cs)=cells:=by
      rw [<-q2.2];apply List.ext_getElem?;intro j;simp only [getElem?_set];by_cases hj:k=j
      ·grind
      ·rw [if_neg hj,if_neg hj,append_assoc];have htl:(e.cs.take k).length =k:=by grind
       by_cases hjk:j<k
       ·grind
       ·rw [getElem?_append_right (by omega),htl,getElem?_append_right (by simp;omega),List.getElem?_drop];grind
     have e2:(((st.ab8 id e.row (e.cs.take k++[C.any]++e.cs.drop (k+[C.any].length))).so.filter (fun d=>d.id != r)).map (Ar.a_ (pD r id))).map (C_ id e.row cells)=((st.so.filter (fun d=>d.id != r)).map (Ar.a_ (pD r id))).map (C_ id e.row cells):=by
      simp only [St.ab8];rw [List.filter_map];simp only [map_map];have:(fun d:Ar=>d.id != r) ∘ C_ id e.row (e.cs.take k++[C.any]++e.cs.drop (k+[C.any].length))=fun d=>d.id != r:=by funext d;simp [ZK]
      grind [List.map_congr_left,nS]
     rw [e1]at g1;have e3: ∀ so,(st.ab8 id e.row (e.cs.take k++[C.any]++e.cs.drop (k+[C.any].length))).a_ (pD r id) so=st.a_ (pD r id) so:=fun so=>rfl;grind
    ·cases h
   ·cases h
  ·cases h
 ·cases h
def dLx (P:Program) (st:St) (o:Oper) (E n len:Nat) (cs:List C):Option (List Prop×St):=match o.op with
 | .load T x=>match o.dst,(AK st true x).2,FW P T with
   | some d, .c (.ptr id k),some (ag,n')=>match (!ag&&Nat.beq n' 1)&&(!Cf (d::st.pre)&& !DF (d::st.pre)),st.u_ id with
     | true,some e=>some ((AK st true x).1++[e.cs[k]? =some (.isl E n len cs)],
      (st.a_ (pD (d::st.pre) id) (⟨d::st.pre,some (E,n,len),cs,true⟩::((st.so.filter (fun x=>x.id != d::st.pre)).map (Ar.a_ (pD (d::st.pre) id))).map (C_ id e.row (e.cs.set k .any)))).put (some d) (.c (.l_ (d::st.pre))))
     | _,_=>none
   | _,_,_=>none
 | _=>none
theorem vm {E n len:Nat} {cs:List C} {l:List Prop} (h:dLx P st o E n len cs=some (l,an)) (hl:A0 l) (hK:K an):El P I o st K:=by
 unfold dLx at h;split at h
 ·rename_i T x ho;split at h
  ·rename_i d id k ag n' abR hx ht;split at h
   ·rename_i e hb he;simp only [Option.some.injEq,injEq]at h;obtain⟨rfl,rfl⟩:=h;obtain⟨q1,q2,_⟩:=Af.1 hl;intro F a w G Q hI hR;have H_:=N5 hR q1;rw [hx]at H_;simp only [Aa,Ab]at H_;obtain⟨b,hb1,hv⟩:=H_;simp only [and_eq_true,not_eq_true']at hb;obtain⟨G',g1,b2,v,g2,g3,g4,g5⟩:=hR.extract he q2 (r:=d::st.pre) hb.2.1 hb.2.2;rw [hb1]at g2;injection g2 with g2;subst g2;obtain⟨dd,i,hu,hd,_⟩:=Bw ht;have h_:(execOp a.eval o).run P w= .ok (.value v) w:=by simp_all [execOp,Cv]
    refine Au h_ ⟨_,G',hK,?_⟩;grind [R.put,Aa,Ab]
   ·cases h
  ·cases h
 ·cases h
def dAa (P:Program) (st:St) (o:Oper) (ln:Nat) (cells:List C):Option (List Prop×St):=match o.op with
 | .call c=>match o.dst,c.callee,c.args.toList,c.argTypes.toList with
   | some d, .builtin .append,[u,x],[t,t']=>match (AK st true u).2,(AK st true x).2,Cw P t with
     | .c (.l_ id), .c (.l_ q),some (E,n,by')=>match st.u_ id,st.look q with
       | some e,some eq=>match e.row,eq.row,eq.cs with
         | some (E0,n0,len),some (E1,n1,aeK),[.l_ r]=>match (t==t'&&(E0==E&&n0==n))&&(Nat.beq n 1&&(Nat.beq n1 1&&Nat.beq aeK 1)),st.look r with
           | true,some er=>match er.row,er.pu with
             | some (E2,n2,aag),true=>some (((AK st true u).1++(AK st true x).1)++[e.cs++[.isl E2 n2 aag er.cs]=cells,(len+1)*by'<=140737488355328/\len+1<=maxLen,len+1=ln],
              ((st.a_ (· ==id) []).a_ (pD r id) (((((st.so.map (Ar.a_ (· ==id))).map (C_ id (some (E,n,ln)) (e.cs++[.any]))).filter (fun d=>d.id != r)).map (Ar.a_ (pD r id))).map (C_ id (some (E,n,ln)) cells))).put (some d) (.c (.l_ id)))
             | _,_=>none
           | _,_=>none
         | _,_,_=>none
       | _,_=>none
     | _,_,_=>none
   | _,_,_,_=>none
 | _=>none
theorem vn {ln:Nat} {cells:List C} {l:List Prop} (h:dAa P st o ln cells=some (l,an)) (hl:A0 l) (hK:K an):El P I o st K:=by
 unfold dAa at h;split at h
 case h_2=>cases h
 rename_i c ho;split at h
 case h_2=>cases h
 rename_i d u x t t' abR aaD aas agd;split at h
 case h_2=>cases h
 rename_i id q E n by' hu hx R_;split at h
 case h_2=>cases h
 rename_i e eq he heq;split at h
 case h_2=>cases h
 rename_i E0 n0 len E1 n1 aeK r aix alC ao4;split at h
 case h_2=>cases h
 rename_i er hb her;split at h
 case h_2=>cases h
 rename_i E2 n2 aag m_ hpu;simp only [Option.some.injEq,injEq]at h;obtain⟨rfl,rfl⟩:=h;obtain⟨q1,q2,q3,q4,_⟩:=Af.1 hl;subst q4;obtain⟨q1,q1'⟩:=Af.1 q1;simp only [and_eq_true,beq_iff_eq]at hb;obtain⟨⟨rfl,rfl,rfl⟩,hb1,hb2,hb3⟩:=hb;have hn:=eq_of_beq_eq_true hb1;have hn1:=eq_of_beq_eq_true hb2;have hl1:=eq_of_beq_eq_true hb3;subst hn hn1 hl1;intro F a w G Q hI hR;have huv:=N5 hR q1;have H_:=N5 hR q1';rw [hu]at huv;rw [hx]at H_;simp only [Aa,Ab]at huv H_;obtain⟨hm,hid,hd⟩:=L3 he;obtain⟨hmq,al3⟩:=AZ heq;obtain⟨hmr,acU⟩:=AZ her;have afu:=DP her;have aeN:r ≠ id:=(by grind);obtain⟨i,z,hty,hi,hz,Tr,hby,hzs⟩:=Bh R_;have hEq:=hR.store eq hmq;unfold AN at hEq;rw [alC,ao4]at hEq;obtain⟨_,vq,c2,c3⟩:=hEq;rw [al3,H_.1]at c2;injection c2 with c2;rcases c3 with ⟨p,_,c4,_⟩ | ⟨bq,ahb,apN,c3,_,_,arz,_,_,c7⟩
 ·cases c4
 simp only [Ai]at c7;obtain⟨⟨vr,hcr,hvr⟩,_⟩:=c7;simp only [Ab]at hvr;obtain⟨v,xs,k1,k2,k3,k4⟩:=C8 aix (hR.store e hm);rw [hid,huv.1]at k1;injection k1 with k1;have hus:Ae w G [C.any] [vr]:=by simp_all [Ae,Ab]
 have abA: ∀ j u',[vr][j]? =some u'->w.cell? ((⟨bq,0,none⟩:Addr).add j)=some u':=by intro j u' hj;cases j<;>grind [Addr.add_mid]
 have main: ∀ v0 v' w',(Builtin.append_ #[t,t] o.type #[a.eval u,a.eval x]).run P w= .ok v' w'->v0.ownBlock=G.blk id->(∀ b j u',G.blk id=some b->xs[j]? =some u'->w.cell? ⟨b,j,none⟩=some u')->w.ownsRow 0 E0 1 v0 len xs->w'.ownsRow 0 E0 1 v' (len+1) (xs++[vr])->w.grownBy w' v0.ownBlock->(v'.ownBlock=v0.ownBlock\/ ∀ b,v'.ownBlock=some b->w.heap.size<=b)->o.wp P a w (hH F K) Q:=by
  intro v0 v' w' h_ hob hxc hold J_ hg hfr;obtain⟨g1,g2⟩:=hR.acH he aix hob k3 hus hxc hold J_ hg hfr rfl rfl;have hD:=g1.v_ (e:=⟨id,some (E0,1,len+1),e.cs++[C.any],e.pu⟩) (id:=id) (by
   simp only [St.a_,map_map,mem_map,Function.comp];grind [C3,Ar.j_,Ar.acD]) rfl hd
  have auf:er.a_ (· ==id)=er:=by obtain⟨i1,r1,cs1,pu1⟩:=er;simp only at hpu;subst hpu;rfl
  have hL:=g1.abt (e:=er) (id:=r) (by
   simp only [St.a_,map_map,mem_map,Function.comp];grind [C2]) acU afu (by grind)
  have hlx:=k3.length;obtain⟨g,cap,cur,n1,_,n2',n3,n4,n5,n6⟩: ∃ g cap cur,v'= .slice (some ⟨g,0,none⟩) (len+1) cap/\0<=g/\w'.heap[g]? =some (.cells cur E0 (0,0))/\len+1<=cap/\cap<=maxLen/\cur.size=cap*1/\cur.toList.take ((len+1)*1)=xs++[vr]:=by
   rcases J_.2 with ⟨_,h0⟩ | h1
   all_goals grind
  have aah:w'.cell? ⟨g,e.cs.length,none⟩=some vr:=by have hrg:=Bp n2' (us:=xs++[vr]) (rest:=cur.toList.drop ((len+1)*1)) (by rw [<-n6,take_append_drop]);have:=hrg e.cs.length vr (by grind);grind
  have aad:(Bv F G id v'.ownBlock (some v')).blk id=some g:=by simp [Bv,n1,Value.ownBlock]
  have aoj:(Bv F G id v'.ownBlock (some v')).own r=some vr:=by grind [Bv]
  have hk':e.cs.length<(⟨id,some (E0,1,len+1),e.cs++[C.any],e.pu⟩:Ar).cs.length :=by simp
  obtain⟨G',g3,g4⟩:=g1.ahh hD hL m_ hpu aad aah aoj hk';have e1:(e.cs++[C.any]).set e.cs.length (.isl E2 n2 aag er.cs)=cells:=by grind
  rw [show (⟨id,some (E0,1,len+1),e.cs++[C.any],e.pu⟩:Ar).row =some (E0,1,len+1)from rfl,show (⟨id,some (E0,1,len+1),e.cs++[C.any],e.pu⟩:Ar).cs =e.cs++[C.any]from rfl,e1]at g3;have ea:c.args= #[u,x]:=by grind
  have et:c.argTypes= #[t,t]:=by grind
  have aeM:(execOp a.eval o).run P w= .ok (.value v') w':=by simp_all [execOp,resolve,invoke,builtin]
  refine Au aeM ⟨_,G',hK,?_⟩;rw [abR];exact R.put (d:=some d) g3 (show Aa w' G' (V.c (C.l_ id)) v' by simp only [Aa,Ab];exact⟨by rw [g4];simp [Bv],g2⟩)
 have hbb:(len+1)*by'<=140737488355328:=q3.1;rcases k4 with ⟨k4,k5⟩ | ⟨p,hvp,h0,hxs,k5⟩
 ·rw [hid]at k5;have hxc: ∀ b j u',G.blk id=some b->xs[j]? =some u'->w.cell? ⟨b,j,none⟩=some u':=by intro b j u' hb' hj;have:=k4.cells (g:=b) (by grind) j u' hj;grind [Addr.add_mid]
  obtain⟨v',w',h_,z_,hg,hfr⟩:=Cj (P:=P) (w:=w) t o.type E0 i z 1 by' hty hi hz Tr hby hzs (by omega) v len xs k4 ⟨bq,0,none⟩ 1 ahb [vr] (by simp) abA (Ae.one hus) q3.2 hbb;grind
 ·rw [hid]at k5;subst h0 hxs;obtain⟨v',w',h_,z_,hg,hfr⟩:=DQ (P:=P) (w:=w) t o.type E0 i z 1 by' hty hi hz Tr hby hzs (by omega) p ⟨bq,0,none⟩ 1 ahb [vr] (by simp) abA (by omega) (by omega) (by simpa using hbb);exact main (.slice none 0 0) v' w' (by grind) k5.symm (by grind) ⟨by simp, .inl ⟨rfl,rfl⟩⟩ (by grind) hg (.inr hfr)
end
end Go.PL
namespace Go.PL
open Go Go.RowKit
inductive Stp where
 | a
 | v (x:V)
 | c (r:V)
 | e (len:Nat) (cs:List C)
 | D (x:DS)
def qq (s:Stp) (len:Nat) (cs:List C) (k:Nat->List C->List Prop->Option (List Prop×St)):Option (List Prop×St):=
 match s with
 | .e aaA Tk=>k aaA Tk [len=aaA/\cs=Tk]
 | _=>k len cs []
theorem Nb {s:Stp} {len:Nat} {cs:List C} {k:Nat->List C->List Prop->Option (List Prop×St)} {r:List Prop×St} (h:qq s len cs k=some r):
 ∃ aaA Tk l,k aaA Tk l=some r/\(A0 l->len=aaA/\cs=Tk):=by
 cases s<;>simp only [qq]at h<;>first
  | exact⟨_,_,_,h,fun q=>q.1⟩
  | grind
def Nc (id:Ad) (len:Nat):List Ar->Prop
 | []=>True
 | e::es=>match e.id==id with
   | true=>c9 len e.row=e.row/\Nc id len es
   | false=>Nc id len es
def St.ahE (st:St) (id:Ad) (cs:List C) (q:Bool) (len:Nat):St:={st with so:=st.so.map fun e=>match e.id==id with
 | true=>⟨e.id,c9 len e.row,cs,e.pu&&q⟩
 | false=>e}
theorem lE {st:St} {id:Ad} {cs:List C} {q:Bool} {len:Nat} (h:Nc id len st.so):st.ahE id cs q len=st.abc id cs q:=by
 have: ∀ l:List Ar,Nc id len l->(l.map fun e=>match e.id==id with
  | true=>(⟨e.id,c9 len e.row,cs,e.pu&&q⟩:Ar)
  | false=>e)=l.map fun e=>if e.id==id then(⟨e.id,e.row,cs,e.pu&&q⟩:Ar)else e:=by
  intro l;induction l<;>grind [Nc]
 unfold St.ahE St.abc;rw [this st.so h]
def iH (P:Program) (st:St) (s:Stp) (d:Option Nat) (T:TypeId) (l:List Prop) (x y:V):Option (List Prop×St):=
 match x,y.cells,FW P T with
 | .c (.ptr id off),some cs,some (_,n)=>match st.look id with
   | some e=>match s with
     | .e aaA Tk=>SB (cs.length==n) (l++[off+n<=e.cs.length/\e.cs.take off++cs++e.cs.drop (off+cs.length)=Tk,Nc id aaA st.so],(st.ahE id Tk (Al cs) aaA).put d .undef)
     | _=>SB (cs.length==n&&Nat.ble (off+n) e.cs.length) (l,(st.abc id (e.cs.take off++cs++e.cs.drop (off+cs.length)) (Al cs)).put d .undef)
   | none=>none
 | _,_,_=>none
theorem N6 {P:Program} {st an:St} {s:Stp} {d:Option Nat} {T:TypeId} {l l':List Prop} {x y:V} (h:iH P st s d T l x y=some (l',an)) (hl:A0 l'):
 A0 l/\(ER P st T x y).1/\(ER P st T x y).2.put d .undef =an:=by
 unfold iH at h;unfold ER;split at h
 ·rename_i id off cs ag n h1 h2;split at h
  ·rename_i e he;split at h
   ·rename_i len Tk;obtain⟨hb,hr⟩:=Bf h;simp only [injEq]at hr;obtain⟨rfl,rfl⟩:=hr;obtain⟨q1,q2,q3,_⟩:=Af.1 hl;grind [lE]
   ·obtain⟨hb,hr⟩:=Bf h;simp_all
  ·cases h
 ·cases h
def zf (st:St) (n:Nat):V->Option (List Prop×Nat×List C×Bool)
 | .c (.sl m cs)=>some ([cs.length=m*n],m,cs,true)
 | .c (.l_ id)=>match st.look id with
   | some e=>match e.row with
     | some (_,n',m)=>SB (n'==n) ([],m,e.cs,e.pu)
     | none=>none
   | none=>none
 | _=>none
theorem iI {st:St} {n:Nat} {x:V} {l:List Prop} {r:Nat×List C×Bool} (h:zf st n x=some (l,r)) (hl:A0 l):NX st n x=some r:=by
 unfold zf at h;unfold NX;split at h
 ·simp only [Option.some.injEq,injEq]at h;obtain⟨rfl,rfl⟩:=h;exact if_pos hl.1
 ·split at h
  ·rename_i h1;split at h
   ·rename_i h2;obtain⟨hb,hr⟩:=Bf h;grind
   ·cases h
  ·cases h
 ·cases h
def ZL (P:Program) (st:St) (s:Stp) (d:Nat) (t:TypeId) (l:List Prop) (u x:V):Option (List Prop×St):=
 match u,Cw P t with
 | .c (.l_ id),some (E,n,by')=>match st.look id,zf st n x with
   | some e,some (l2,m,cs,q)=>match e.row with
     | some (E',n',len)=>match E'==E&&n'==n&&Nat.blt 0 n with
       | true=>qq s (len+m) (e.cs++cs) fun aaA Tk l3=>
         some (l++(l2++(l3++[(len+m)*by'<=140737488355328/\len+m<=maxLen])),(st.new ⟨id,some (E,n,aaA),Tk,e.pu&&q⟩).put (some d) (.c (.l_ id)))
       | false=>none
     | none=>none
   | _,_=>none
 | _,_=>none
theorem WS {P:Program} {st an:St} {s:Stp} {d:Nat} {t:TypeId} {l l':List Prop} {u x:V} (h:ZL P st s d t l u x=some (l',an)) (hl:A0 l'):
 A0 l/\(Em P st d t u x).1/\(Em P st d t u x).2=an:=by
 unfold ZL at h;unfold Em;split at h
 ·rename_i id E n by' h1;split at h
  ·rename_i e l2 m cs q h2 h3;split at h
   ·rename_i E' n' len h4;split at h
    ·rename_i hb;obtain⟨aaA,Tk,l3,hk,ht⟩:=Nb h;simp only [Option.some.injEq,injEq]at hk;obtain⟨rfl,rfl⟩:=hk;obtain⟨q1,q2⟩:=Af.1 hl;obtain⟨q2,q3⟩:=Af.1 q2;obtain⟨q3,q4,_⟩:=Af.1 q3;obtain⟨rfl,rfl⟩:=ht q3;simp only [and_eq_true,beq_iff_eq,Nat.blt_eq]at hb;simp only [h1,h2,iI h3 q2,h4];grind
    ·cases h
   ·cases h
  ·cases h
 ·cases h
def qr (P:Program) (st:St) (s:Stp) (d:Nat) (t:TypeId) (l:List Prop) (x y:V):Option (List Prop×St):=
 match x,y,s with
 | .c (.bsl id off len), .c (.bsl id2 acz aag), .e aaA Tk=>match Ck P t with
   | some (_,1)=>match st.look id,st.look id2 with
     | some e,some e2=>SB (Nat.ble (off+Nat.min aag len) e.cs.length&&Nat.ble (acz+Nat.min aag len) e2.cs.length) (l++[e.cs.take off++(e2.cs.drop acz).take (Nat.min aag len)++e.cs.drop (off+((e2.cs.drop acz).take (Nat.min aag len)).length)=Tk,Nc id aaA st.so],
      (st.ahE id Tk (Al ((e2.cs.drop acz).take (Nat.min aag len))) aaA).put (some d) (.c (.int .i64 (Nat.min aag len:Nat))))
     | _,_=>none
   | _=>none
 | _,_,_=>none
theorem da {P:Program} {st an:St} {s:Stp} {d:Nat} {t:TypeId} {l l':List Prop} {x y:V} (h:qr P st s d t l x y=some (l',an)) (hl:A0 l'):
 A0 l/\(QW P st d t x y).1/\(QW P st d t x y).2=an:=by
 unfold qr at h;unfold QW;split at h
 ·rename_i id off len id2 acz aag aaA Tk;split at h
  ·rename_i E h0;split at h
   ·rename_i e e2 h1 h2;obtain⟨hb,hr⟩:=Bf h;simp only [injEq]at hr;obtain⟨rfl,rfl⟩:=hr;obtain⟨q1,q2,q3,_⟩:=Af.1 hl;simp_all [lE]
   ·cases h
  ·cases h
 ·cases h
def qt (P:Program) (st:St) (s:Stp) (d:Nat) (t:TypeId) (p:List Prop) (l c:V):Option (List Prop×St):=
 match l,c,Cw P t with
 | .c (.int _ l), .c (.int _ c),some (E,n,by')=>match MG P E with
   | some z=>match z.length==n&&Nat.blt 0 n with
     | true=>qq s l.toNat (BB z l.toNat) fun aaA Tk l3=>some (p++(l3++[0<=l/\l<=c/\c*by'<=140737488355328/\c<=maxLen]),(st.new ⟨d::st.pre,some (E,n,aaA),Tk,true⟩).put (some d) (.c (.l_ (d::st.pre))))
     | false=>none
   | none=>none
 | _,_,_=>none
theorem db {P:Program} {st an:St} {s:Stp} {d:Nat} {t:TypeId} {p l':List Prop} {l c:V} (h:qt P st s d t p l c=some (l',an)) (hl:A0 l'):
 A0 p/\(HQ P st d t l c).1/\(HQ P st d t l c).2=an:=by
 unfold qt at h;unfold HQ;split at h
 ·rename_i h1;split at h
  ·rename_i h2;split at h
   ·rename_i hb;obtain⟨aaA,Tk,l3,hk,ht⟩:=Nb h;simp only [Option.some.injEq,injEq]at hk;obtain⟨rfl,rfl⟩:=hk;obtain⟨q1,q2⟩:=Af.1 hl;obtain⟨q2,q3,_⟩:=Af.1 q2;obtain⟨rfl,rfl⟩:=ht q2;simp_all
   ·cases h
  ·cases h
 ·cases h
def Jw (st:St) (g:Bool) (ps:List (Nat×Operand)):List Prop×List (Nat×V):=
 match ps with
 | []=>([],[])
 | (i,x)::r=>((AK st g x).1++(Jw st g r).1,(i,(AK st g x).2)::(Jw st g r).2)
theorem PS {st:St} {g:Bool}: ∀ {ps:List (Nat×Operand)},A0 (Jw st g ps).1->(st.parts g ps).1/\(st.parts g ps).2=(Jw st g ps).2
 | [],_=>⟨trivial,rfl⟩
 | (i,x)::r,hl=>by obtain⟨h1,h2⟩:=Af.1 hl;have a:=LZ (st:=st) (g:=g) (x:=x) h1;have b:=PS (st:=st) (g:=g) (ps:=r) h2;simp only [St.parts,Jw];exact⟨⟨a.1,b.1⟩,by rw [a.2,b.2]⟩
def zg (P:Program) (st:St) (s:Stp) (d:Nat) (t:TypeId) (len:Nat) (ps:List (Nat×Operand)):Option (List Prop×St):=
 match Cw P t with
 | some (E,n,_)=>match MG P E with
   | some z=>match GR (fun i=>some (i*n,n)) (BB z len) ((Jw st true ps).2.map QV)with
     | some cs=>match z.length==n&&Nat.blt 0 n&&Nat.ble (len*n) (2 ^ 24)&&Al cs with
       | true=>qq s len cs fun aaA Tk l3=>some ((Jw st true ps).1++l3,(st.new ⟨d::st.pre,some (E,n,aaA),Tk,true⟩).put (some d) (.c (.l_ (d::st.pre))))
       | false=>none
     | none=>none
   | none=>none
 | none=>none
theorem iJ {P:Program} {st an:St} {s:Stp} {d:Nat} {t:TypeId} {len:Nat} {ps:List (Nat×Operand)} {l':List Prop} (h:zg P st s d t len ps=some (l',an)) (hl:A0 l'):
 (AS P st d t len ps).1/\(AS P st d t len ps).2=an:=by
 unfold zg at h;unfold AS;split at h
 ·rename_i h1;split at h
  ·rename_i h2;split at h
   ·rename_i h3;split at h
    ·rename_i hb;obtain⟨aaA,Tk,l3,hk,ht⟩:=Nb h;simp only [Option.some.injEq,injEq]at hk;obtain⟨rfl,rfl⟩:=hk;obtain⟨q1,q2⟩:=Af.1 hl;obtain⟨rfl,rfl⟩:=ht q2;simp_all [PS]
    ·cases h
   ·cases h
  ·cases h
 ·cases h
def ef1 (P:Program) (st:St) (s:Stp) (o:Oper):Option (List Prop×St):=
 match o.op with
 | .store T x y=>iH P st s o.dst T ((AK st true x).1++(AK st true y).1) (AK st true x).2 (R7 st (AK st true x).2 (ij y (AK st true y).2))
 | op=>match o.dst with
   | none=>none
   | some d=>match op with
     | .alloc T=>match TG P T with
       | some cs=>some ([],(st.new ⟨d::st.pre,none,cs,false⟩).put (some d) (.c (.ptr (d::st.pre) 0)))
       | none=>none
     | .box _ x=>match (AK st true x).2.cells with
       | some cs=>some ((AK st true x).1,(st.new ⟨d::st.pre,none,cs,false⟩).put (some d) (.c (.ptr (d::st.pre) 0)))
       | none=>none
     | .assign (.const (.slice none 0 0))=>match Ck P o.type with
       | some (E,n)=>some ([],(st.new ⟨d::st.pre,some (E,n,0),[],true⟩).put (some d) (.c (.l_ (d::st.pre))))
       | none=>none
     | .buildSlice t len ps=>zg P st s d t len ps.toList
     | .makeSlice t l c=>qt P st s d t ((AK st true l).1++(AK st true c).1) (AK st true l).2 (AK st true c).2
     | .call c=>match c.callee,c.args.toList,c.argTypes.toList with
       | .builtin .append,[u,x],[t,t']=>match t==t' with
         | true=>ZL P st s d t ((AK st true u).1++(AK st true x).1) (AK st true u).2 (AK st true x).2
         | false=>none
       | .builtin .copy,[u,x],[t,_]=>qr P st s d t ((AK st true u).1++(AK st true x).1) (AK st true u).2 (AK st true x).2
       | _,_,_=>none
     | _=>none
theorem PT {P:Program} {st an:St} {s:Stp} {o:Oper} {l:List Prop} (h:ef1 P st s o=some (l,an)) (hl:A0 l):(PL.ef P st o).1/\(PL.ef P st o).2=an:=by
 have A: ∀ x,A0 (AK st true x).1->(st.arg true x).1/\(st.arg true x).2=(AK st true x).2:=fun x hx=>LZ hx;obtain⟨dst,op,ty,pos,aft,gd⟩:=o;cases op<;>cases dst<;>simp only [ef1]at h<;>simp only [PL.ef]<;>try (cases h;done)
 case store.none T x y=>
  have:=N6 h hl;grind [Af]
 case store.some T x y d=>
  have:=N6 h hl;grind [Af]
 case alloc.some T d=>
  grind
 case box.some T x d=>
  grind
 case assign.some x d=>
  grind
 case buildSlice.some t len ps d=>exact iJ h hl
 case makeSlice.some t a b d=>
  have:=db h hl;grind [Af]
 case call.some c d=>
  split at h
  ·rename_i u x t t' h1 h2 h3;split at h
   ·rename_i hb;obtain rfl:t=t':=by grind
    have:=WS h hl;simp_all [Af]
   ·cases h
  ·rename_i u x t t' h1 h2 h3;have:=da h hl;simp_all [Af]
  ·cases h
def Stp.u:Stp->Option V
 | .v x=>some x
 | _=>none
def dNw (P:Program) (st:St) (o:Oper) (t:Option (Nat×List C)):Option (List Prop×St):=match BC o.op,ef1 P st (match t with
    | none=> .a
    | some (l,cs)=> .e l cs) o,o.dst with
 | .ef,some (l,st1),some d=>match st1.get d with
   | .c (.l_ r)=>match st1.look r with
     | some er=>match er.row,er.pu with
       | some (E,n,len),true=>some (l++[er.cs.all hZ=true],(st1.a_ (fun i=>i==r||(i==1000003::r||C4 (1000003::r) i)) (⟨1000003::r,some (E,n,len),er.cs,true⟩::((st1.so.filter (fun d=>d.id != r&&d.id != 1000003::r)).map (Ar.a_ (fun i=>i==r||(i==1000003::r||C4 (1000003::r) i)))))).put (some d) (.c (.l_ (1000003::r))))
       | _,_=>none
     | none=>none
   | _=>none
 | _,_,_=>none
theorem vt {P:Program} {I:World->Prop} {o:Oper} {st an:St} {K:St->Prop} {t:Option (Nat×List C)} {l:List Prop} (h:dNw P st o t=some (l,an)) (hl:A0 l) (hK:K an):El P I o st K:=by
 unfold dNw at h;split at h
 case h_2=>cases h
 rename_i l1 st1 d hk hef abR;split at h
 case h_2=>cases h
 rename_i r ah4;split at h
 case h_2=>cases h
 rename_i er her;split at h
 case h_2=>cases h
 rename_i E n len m_ hpu;simp only [Option.some.injEq,injEq]at h;obtain⟨rfl,rfl⟩:=h;obtain⟨q1,q2,_⟩:=Af.1 hl;intro F a w G Q hI hR;obtain⟨h1,h2⟩:=PT hef q1;have hs:nF P F.I o st (fun s'=>s'=st1):=by grind [nF]
 refine Oper.wp_mono (fun a' w' ⟨s',G',hs',hR'⟩=>?_) (LY hR hs);subst hs';obtain⟨G2,g1,g2⟩:=hR'.ag_ her m_ hpu q2 (id:=1000003::r) rfl rfl;have hv:=hR'.slots d;rw [show s'.tm.getD d .undef = .c (.l_ r)from ah4]at hv;simp only [Aa,Ab]at hv;exact⟨_,G2,hK,g1.aci (by grind [Aa,Ab])⟩
def dBs (P:Program) (st:St) (o:Oper):Option (List Prop×St):=match o.op,o.dst with
 | .buildSlice t len ps,some d=>match Cw P t with
   | some (E,n,_)=>match MG P E with
     | some z=>match GR (fun i=>some (i*n,n)) (BB z len) ((Jw st true ps.toList).2.map QV)with
       | some cs=>match z.length==n&&Nat.blt 0 n&&Nat.ble (len*n) (2 ^ 24)with
         | true=>some ((Jw st true ps.toList).1,(st.new ⟨d::st.pre,some (E,n,len),cs,Al cs⟩).put (some d) (.c (.l_ (d::st.pre))))
         | false=>none
       | none=>none
     | none=>none
   | none=>none
 | _,_=>none
theorem nT {P:Program} {o:Oper} {st an:St} {l:List Prop} (h:dBs P st o=some (l,an)) (hl:A0 l):BC o.op= .ef /\(PL.ef P st o).1/\(PL.ef P st o).2=an:=by
 obtain⟨dst,op,ty,pos,aft,gd⟩:=o;unfold dBs at h;simp only at h;split at h
 case h_2=>cases h
 rename_i t len ps d;refine⟨rfl,?_⟩;simp only [PL.ef];unfold AS;split at h
 ·rename_i h1;split at h
  ·rename_i h2;split at h
   ·rename_i h3;split at h
    ·rename_i hb;simp only [Option.some.injEq,injEq]at h;obtain⟨rfl,rfl⟩:=h;simp_all [PS]
    ·cases h
   ·cases h
  ·cases h
 ·cases h
def qu (P:Program) (st:St) (o:Oper):DS->Option (List Prop×St)
 | .ld E n len cs=>dLd P st o E n len cs
 | .ix E n len cs=>dIx P st o E n len cs
 | .rd E n len cs u=>dRd P st o E n len cs u
 | .ln E n len cs=>dLn P st o E n len cs
 | .st E n len ln cs cells=>dSt P st o E n len ln cs cells
 | .ps cells=>dPs P st o cells
 | .ab cells=>dAb P st o cells
 | .lx E n len cs=>dLx P st o E n len cs
 | .nw t=>dNw P st o t
 | .bs =>dBs P st o
 | .aa ln cells=>dAa P st o ln cells
theorem nU {P:Program} {I:World->Prop} {o:Oper} {st an:St} {K:St->Prop} {x:DS} {l:List Prop} (h:qu P st o x=some (l,an)) (hl:A0 l) (hK:K an):nF P I o st K:=by
 cases x<;>simp only [qu]at h
 case bs=>
  obtain⟨h1,h2,h3⟩:=nT h hl;grind [nF]
 all_goals refine .inl ?_
 ·exact vf h hl hK
 ·exact vg h hl hK
 all_goals grind [vh,vi,vj,vk,vl,vm,vt,vn]
def iK (P:Program) (I:World->Prop) (dr:Bool) (ops:Array Oper) (o:Oper) (s:Stp) (st:St):Option (List Prop×St):=
 match o.guard with
 | none=>match BC o.op with
   | .rd =>match yc P st true s.u o.op with
     | some (l,v)=>some (l,st.put o.dst v)
     | none=>none
   | .cut x=>match dr with
     | true=>match yc P st true s.u o.op with
       | some (l,v)=>some (l,st.put o.dst v)
       | none=>none
     | false=>match yc P (st.cutAt true x) true s.u o.op with
       | some (l,v)=>some (l,(st.cutAt true x).put o.dst v)
       | none=>none
   | .ef =>match dr with
     | true=>none
     | false=>ef1 P st s o
   | .call f xs=>match s with
     | .c r=>match BA ((Fv st true xs).2.map (Bc st))&&(r.flat||(!dr&&Nat.ble (Cc (Fv st true xs).2).length 1&&(Cc (Fv st true xs).2).all st.aaI))with
       | true=>some ((Fv st true xs).1++[Cm P I f ((Fv st true xs).2.map (Bc st)) (· =r)],match dr with
         | true=>st.put o.dst r
         | false=>st.after (Cc (Fv st true xs).2) o.dst r)
       | false=>none
     | _=>none
   | .no =>none
 | some (j,want)=>match F5 st ops j want with
   | some g=>match BC o.op with
     | .rd =>match yc P st g s.u o.op with
       | some ([],v)=>some ([],st.put o.dst (.g g v))
       | some (l,v)=>some ([g=true->A0 l],st.put o.dst (.g g v))
       | none=>none
     | .cut _=>match dr with
       | true=>match yc P st g s.u o.op with
         | some ([],v)=>some ([],st.put o.dst (.g g v))
         | some (l,v)=>some ([g=true->A0 l],st.put o.dst (.g g v))
         | none=>none
       | false=>none
     | .call f xs=>match s with
       | .c r=>match BA ((Fv st g xs).2.map (Bc st))&&(r.flat||(!dr&&(Cc (Fv st g xs).2).isEmpty))with
         | true=>some ([g=true->A0 (Fv st g xs).1/\Cm P I f ((Fv st g xs).2.map (Bc st)) (· =r)],st.put o.dst (.g g r))
         | false=>none
       | _=>none
     | .ef =>match dr with
       | true=>none
       | false=>match ef1 P st s o with
         | some (l,an)=>some (l++[g=true],an)
         | none=>none
     | _=>none
   | none=>none
def dc (P:Program) (I:World->Prop) (dr:Bool) (ops:Array Oper) (o:Oper) (s:Stp) (st:St):Option (List Prop×St):=
 match s with
 | .D x=>match dr,o.guard with
   | false,none=>qu P st o x
   | _,_=>none
 | s=>iK P I dr ops o s st
def T0 (P:Program) (I:World->Prop) (dr:Bool) (ops:Array Oper):List Oper->List Stp->St->Option (List Prop×St)
 | [],[],st=>some ([],st)
 | o::rest,s::ss,st=>match dc P I dr ops o s st with
   | some (l,an)=>match T0 P I dr ops rest ss an with
     | some (l',aiU)=>some (l++l',aiU)
     | none=>none
   | none=>none
 | _,_,_=>none
theorem qv {st:St} {g:Bool} {x:Operand}:(st.arg g x).2=(AK st g x).2:=by grind [AK,St.arg]
theorem XQ {st:St} {g:Bool}: ∀ {xs:List Operand},(st.args g xs).2=(Fv st g xs).2
 | []=>rfl
 | x::xs=>by simp only [St.args,Fv,qv,XQ (xs:=xs)]
theorem vu {P:Program} {I:World->Prop} {ops:Array Oper} {o:Oper} {x:DS} {st an:St} {l:List Prop} {K:St->Prop} (h:dc P I false ops o (.D x) st=some (l,an)) (hl:A0 l) (hK:K an):ZC P I ops o st K:=by grind [dc,ZC,nU]
theorem qw {P:Program} {I:World->Prop} {ops:Array Oper} {o:Oper} {s:Stp} {st an:St} {l:List Prop} {K:St->Prop} (h:dc P I false ops o s st=some (l,an)) (hl:A0 l) (hK:K an):ZC P I ops o st K:=by
 by_cases hD: ∃ x,s= .D x
 ·obtain⟨x,rfl⟩:=hD;exact vu h hl hK
 replace h:iK P I false ops o s st=some (l,an):=by cases s<;>first | exact h | grind
 unfold iK at h;unfold ZC;split at h
 ·rename_i hg;rw [hg];simp only;unfold nF;right;split at h
  ·rename_i hk;simp only [hk];split at h
   ·rename_i l v ho;simp only [Option.some.injEq,injEq]at h;obtain⟨rfl,rfl⟩:=h;grind [L2]
   ·cases h
  ·rename_i x hk;simp only [hk];dsimp only at h;split at h
   ·rename_i l v ho;simp only [Option.some.injEq,injEq]at h;obtain⟨rfl,rfl⟩:=h;grind [L2]
   ·cases h
  ·grind [PT]
  ·rename_i f xs hk;simp only [hk];split at h
   ·rename_i r;split at h
    ·rename_i hb;simp only [Option.some.injEq,injEq]at h;obtain⟨rfl,rfl⟩:=h;obtain⟨q1,q2,_⟩:=Af.1 hl;obtain⟨k1,k2⟩:=N3 q1;simp only [and_eq_true,or_eq_true,Bool.not_false,true_and,Nat.ble_eq,all_eq_true]at hb;grind
    ·cases h
   ·cases h
  ·cases h
 ·rename_i j want hg;rw [hg];simp only;split at h
  ·rename_i g hq;rw [hq];simp only;unfold yT;by_cases hef:BC o.op= .ef
   ·left;rw [hef]at h;dsimp only at h;split at h
    ·rename_i l1 st1 h1;simp only [Option.some.injEq,injEq]at h;obtain⟨rfl,rfl⟩:=h;obtain⟨q1,q2,_⟩:=Af.1 hl;grind [nF,PT]
    ·cases h
   right;split at h
   ·rename_i hk;simp only [hk];split at h
    ·rename_i v ho;simp only [Option.some.injEq,injEq]at h;obtain⟨rfl,rfl⟩:=h;exact⟨v,fun _=>L2 ho trivial,hK⟩
    ·rename_i l v n_ ho;simp only [Option.some.injEq,injEq]at h;obtain⟨rfl,rfl⟩:=h;exact⟨v,fun hgt=>L2 ho (hl.1 hgt),hK⟩
    ·cases h
   ·cases h
   ·rename_i f xs hk;simp only [hk];split at h
    ·rename_i r;split at h
     ·rename_i hb;simp only [Option.some.injEq,injEq]at h;obtain⟨rfl,rfl⟩:=h;simp only [and_eq_true,or_eq_true,Bool.not_false,true_and,List.isEmpty_iff]at hb;refine⟨fun hgt=>?_,r,(by grind [XQ]),fun hgt=>?_,hK⟩
      ·obtain⟨k1,k2⟩:=N3 (hl.1 hgt).1;grind
      ·obtain⟨k1,k2⟩:=N3 (hl.1 hgt).1;rw [k2];exact(hl.1 hgt).2
     ·cases h
    ·cases h
   all_goals grind
  ·cases h
theorem lF {P:Program} {I:World->Prop} {ops:Array Oper}: ∀ {l:List Oper} {ss:List Stp} {st an:St} {cs:List Prop} {K:St->Prop},T0 P I false ops l ss st=some (cs,an)->A0 cs->K an->MH P I ops l st K
 | [],[],st,an,cs,K,h,_,hK=>by simp only [T0,Option.some.injEq,injEq]at h;obtain⟨rfl,rfl⟩:=h;exact hK
 | o::rest,s::ss,st,an,cs,K,h,hl,hK=>by
   simp only [T0]at h;split at h
   ·rename_i l1 st1 h1;split at h
    ·rename_i l2 st2 h2;simp only [Option.some.injEq,injEq]at h;obtain⟨rfl,rfl⟩:=h;obtain⟨q1,q2⟩:=Af.1 hl;exact qw (K:=fun s=>MH P I ops rest s K) h1 q1 (lF h2 q2 hK)
    ·cases h
   ·cases h
 | [],_::_,_,_,_,_,h,_,_=>by simp [T0]at h
 | _::_,[],_,_,_,_,h,_,_=>by simp [T0]at h
section
variable {P:Program} {F:Fr} {st:St}
theorem Ak.reg {id:Nat} {l:List Oper} {Q:Exit->St->Prop} {ss:List Stp} {cs:List Prop} {an:St} (hr:T0 P F.I false l.toArray l ss st=some (cs,an)) (hl:A0 cs) (h:Q .normal an):Ak P F (.region id l.toArray false) st Q:=
 Ak.region (lF hr hl h)
theorem Ak.ifB {c:Operand} {x y:Code} {Q:Exit->St->Prop} (b:Bool) (hc:st.ev c= .c (.bool b)) (h1:b=true->Ak P F x st Q) (h2:b=false->Ak P F y st Q):Ak P F (.cond c x y) st Q:=Ak.cond hc h1 h2
def iter {σ ρ:Type} (B:σ->Option (σ⊕ρ)):Nat->σ->Option ρ
 | 0,_=>none
 | n+1,s=>match B s with
   | some (.inl s')=>iter B n s'
   | some (.inr r)=>some r
   | none=>none
end
def Aj (x:Int):Int:=IntKind.i64.wrap x
def gd {α:Type} [Inhabited α] (g:Bool) (o:Option α):Option α:=if g then o else some default
def idx {α:Type} [Inhabited α] (l:List α) (i:Int):Option α:=if 0<=i/\i<l.length then some (l.getD i.toNat default)else none
def aaZ (s:List UInt8) (i:Int):Option Int:=if 0<=i/\i<s.length then some (s.getD i.toNat 0).toNat else none
def cat (a b:List UInt8):Option (List UInt8):=if a.length+b.length<=maxLen then some (a++b)else none
def ZM (s:List UInt8) (a b:Int):Option (List UInt8):=if 0<=a/\a<=b/\b<=s.length then some ((s.drop a.toNat).take (b.toNat - a.toNat))else none
def iL {α:Type} (s:List α) (a b:Int):Option (List α):=if 0<=a/\a<=b/\b<=s.length then some ((s.drop a.toNat).take (b.toNat - a.toNat))else none
def app {α:Type} (by':Nat) (l m:List α):Option (List α):=if(l.length+m.length)*by'<=140737488355328/\l.length+m.length<=maxLen then some (l++m)else none
def DG (p:Prop) [Decidable p]:Option Unit:=if p then some ()else none
theorem bS {α β:Type} {o:Option α} {k:α->Option β} {r:β} (h:o.bind k=some r): ∃ x,o=some x/\k x=some r:=by cases o<;>grind
theorem sI {α:Type} {x y:α} (h:some x=some y):x=y:=Option.some.inj h
section
variable {α:Type} [Inhabited α] {l m r:List α} {i:Int} {x:α} {g:Bool}
theorem N7 (h:idx l i=some x):0<=i/\i<l.length:=by grind [idx]
theorem de (h:idx l i=some x):x=l.getD i.toNat default:=by grind [idx]
theorem qx {o:Option α} (h:gd g o=some x):g=true->o=some x:=fun hg=>by simp_all [gd]
theorem zh {s:List UInt8} {n:Int} (h:aaZ s i=some n):0<=i/\i<s.length:=by grind [aaZ]
theorem zi {s:List UInt8} {n:Int} (h:aaZ s i=some n):n=(s.getD i.toNat 0).toNat :=by grind [aaZ]
theorem yd {a b c:List UInt8} (h:cat a b=some c):a.length+b.length<=maxLen:=by grind [cat]
theorem ye {a b c:List UInt8} (h:cat a b=some c):c=a++b:=by grind [cat]
theorem zj {s c:List UInt8} {a b:Int} (h:ZM s a b=some c):0<=a/\a<=b/\b<=s.length:=by grind [ZM]
theorem zk {s c:List UInt8} {a b:Int} (h:ZM s a b=some c):c=(s.drop a.toNat).take (b.toNat - a.toNat):=by grind [ZM]
omit [Inhabited α] in
theorem yf {b:Nat} (h:app b l m=some r):(l.length+m.length)*b<=140737488355328/\l.length+m.length<=maxLen:=by grind [app]
omit [Inhabited α] in
theorem yg {b:Nat} (h:app b l m=some r):r=l++m:=by grind [app]
end
theorem BK {p:Prop} [Decidable p] {u:Unit} (h:DG p=some u):p:=by grind [DG]
def eI (k:IntKind) (v:Int):List C:=[.int k v]
def eB (v:Bool):List C:=[.bool v]
def eS (v:List UInt8):List C:=[.str v]
def eL {α:Type} (e:α->List C) (l:List α):List C:=[.sl l.length (l.flatMap e)]
theorem lG {α:Type} [Inhabited α] {l:List α} {i:Int} {x:α} {e:α->List C} {N:Nat} {o n:Nat} {ag:Bool} {v:V} {off:Nat} (hx:idx l i=some x) (hN: ∀ y,(e y).length =N) (aaC:off=i.toNat*N+o) (ho:o+n<=N) (h0:ag=true\/0<n)
 (hv:toV ag o n (e x)=v):off+n<=(l.flatMap e).length /\toV ag off n (l.flatMap e)=v:=by
 have hb:=N7 hx;have hxx:=de hx;have Tw:i.toNat<l.length:=by omega
 subst aaC;rw [DI hN];constructor
 ·have:(i.toNat+1)*N<=l.length*N:=Nat.mul_le_mul_right _ Tw;grind
 ·rw [<-hv];unfold toV;cases ag with
  | true=>simp only [if_true];grind [XM]
  | false=>simp only [Bool.false_eq_true,if_false];grind [qf]
def qy (P:Program) (st:St):ResultVar->Option V
 | .tmp t=>some (st.get t)
 | .cell t T=>match lA P T st [] (st.get t)with
   | some (_,v)=>some v
   | none=>none
def XR (P:Program) (st:St):List ResultVar->Option (List V)
 | []=>some []
 | x::xs=>match qy P st x,XR P st xs with
   | some v,some vs=>some (v::vs)
   | _,_=>none
def vv (P:Program) (st:St):List ResultVar->Option V
 | [x]=>qy P st x
 | xs=>match XR P st xs with
   | some vs=>some (.tup vs)
   | none=>none
theorem T1 {P:Program} {st:St} {x:ResultVar} {v:V} (h:qy P st x=some v):(Mx P st x).1/\(Mx P st x).2=v:=by
 cases x with
 | tmp t=>simp only [qy,Option.some.injEq]at h;exact⟨trivial,h⟩
 | cell t T=>
   simp only [qy]at h;split at h
   ·rename_i l u hl;injection h with h;subst h;have:=Q9 hl;exact⟨this.2.1,this.2.2⟩
   ·cases h
theorem Re {P:Program} {st:St}: ∀ {xs:List ResultVar} {vs:List V},XR P st xs=some vs->(BR P st xs).1/\(BR P st xs).2=vs
 | [],vs,h=>by simp only [XR,Option.some.injEq]at h;subst h;exact⟨trivial,rfl⟩
 | x::xs,vs,h=>by
   simp only [XR]at h;split at h
   ·rename_i v us h1 h2;injection h with h;subst h;have a:=T1 h1;have b:=Re h2;exact⟨⟨a.1,b.1⟩,by simp only [BR,a.2,b.2]⟩
   ·cases h
theorem dg {P:Program} {st:St} {x:ResultVar}:(N2 P st x).1=(Mx P st x).1/\(N2 P st x).2=Bc st (Mx P st x).2:=by cases x<;>exact⟨rfl,rfl⟩
theorem XT {P:Program} {st:St}: ∀ {xs:List ResultVar},(Ea P st xs).1=(BR P st xs).1/\(Ea P st xs).2=(BR P st xs).2.map (Bc st)
 | []=>⟨rfl,rfl⟩
 | x::xs=>by have a:=dg (P:=P) (st:=st) (x:=x);have b:=XT (P:=P) (st:=st) (xs:=xs);simp only [Ea,BR,a.1,a.2,b.1,b.2,map_cons,and_self]
def yh (st:St) (rs:List ResultVar):V->V
 | .tup vs=>match rs with
   | [_]=> .tup vs
   | _=> .tup (vs.map (Bc st))
 | v=>Bc st v
theorem vw {P:Program} {st:St} {rs:List ResultVar} {v r:V} {e:Exit} (he:e= .normal \/e= .ret) (h:vv P st rs=some v) (hs:yh st rs v=r) (hp:r.pure=true) {r':V} (hr:r=r'):
 (e= .normal \/e= .ret)/\(CZ P st rs).1/\(CZ P st rs).2.pure =true/\(CZ P st rs).2=r':=by
 subst hr;have key:(CZ P st rs).1/\(CZ P st rs).2=r:=by
  match rs with
  | [x]=>
    have a:=T1 h;have b:=dg (P:=P) (st:=st) (x:=x);simp only [CZ];rw [b.1,b.2,a.2, <-hs];exact⟨a.1,by cases v<;>rfl⟩
  | []=>
    simp only [vv,XR,Option.some.injEq]at h;subst h;subst hs;exact⟨trivial,rfl⟩
  | x::y::xs=>
    simp only [vv]at h;split at h
    ·rename_i vs hv;injection h with h;subst h;have a:=Re hv;have b:=XT (P:=P) (st:=st) (xs:=x::y::xs);simp only [CZ];rw [b.1,b.2,a.2, <-hs];exact⟨a.1,rfl⟩
    ·cases h
 grind
def Rf:List Bool->List V->List V
 | [],_=>[]
 | true::m,v::vs=>v::Rf m vs
 | false::m,_::vs=> .undef ::Rf m vs
 | _::_,[]=>[]
theorem lH: ∀ {m:List Bool} {l l':List V},m.length=l.length->Rf m l=l'->cP l l'
 | [],[],l',_,h=>by simp only [Rf]at h;subst h;trivial
 | true::m,v::vs,l',hl,h=>by simp only [Rf]at h;subst h;exact⟨.inr rfl,lH (by grind) rfl⟩
 | false::m,v::vs,l',hl,h=>by simp only [Rf]at h;subst h;exact⟨.inl rfl,lH (by grind) rfl⟩
 | [],_::_,_,hl,_=>by simp at hl
 | _::_,[],_,hl,_=>by simp at hl
section
variable {P:Program} {F:Fr} {st:St}
end
def FU:Nat:=9223372036854775807
theorem qz {α:Type} [Inhabited α] {l:List α} {i:Int} {x:α} {e:α->List C} {N:Nat} {o n base:Nat} {ag:Bool} {v:V} {off:Nat} {cs pre post:List C} (hcs:cs=pre++(l.flatMap e++post)) (hb:pre.length=base) (hx:idx l i=some x) (hN: ∀ y,(e y).length =N) (aaC:off=base+(i.toNat*N+o)) (ho:o+n<=N) (h0:ag=true\/0<n)
 (hv:toV ag o n (e x)=v):off+n<=cs.length/\toV ag off n cs=v:=by
 obtain⟨h1,h2⟩:=lG hx hN rfl ho h0 hv;subst hcs aaC hb;constructor
 ·grind
 ·rw [<-h2];unfold toV;cases ag with
  | true=>
    simp only [if_true];rw [<-drop_drop,drop_left,List.drop_append_of_le_length (by omega),List.take_append_of_le_length (by simp only [List.length_drop];omega)]
  | false=>
    grind
end Go.PL
namespace Go.PL
open Go Go.RowKit
def Aez (ids:List Ad) (st:St):St:={st with so:=ids.filterMap fun i=>st.so.find? fun e=>e.id==i}
def Afn (P:Program) (I:World->Prop) (ops:Array Oper) (ss:List Stp) (ids:List Ad) (st:St) (i:Nat):Option (List Prop×St):=
 match ops[i]?,ss[i]? with
 | some o,some s=>match dc P I false ops o s st with
   | some (c,an)=>some (c,Aez ids an)
   | none=>none
 | _,_=>none
section
variable {P:Program} {F:Fr} {st:St} {ops:Array Oper}
theorem XU {a:Act} {w:World} {G:Ax} (h:R F st a w G) {o:Oper} {K:St->Prop} {Q:Exit->Act->World->Prop} (hs:ZC P F.I ops o st K):
 if Region.wanted o (yielded ops a.tmps)=true then o.wp P a w (hH F K) Q else hH F K (a.put o.dst Go.undef) w:=by
 unfold ZC at hs;split at hs
 ·rename_i hg;rw [C9 hg,if_pos rfl];exact LY h hs
 ·rename_i j want hg;split at hs
  ·rename_i g hq;rw [GV h hg hq];exact XI h hs
  grind
end
end Go.PL
namespace Go.PL
open Go Go.RowKit
section
variable {P:Program} {I:World->Prop} {ops:Array Oper} {st an:St} {K:St->Prop}
end
end Go.PL
namespace Go.PL
open Go Go.RowKit
def G4 (l:List Int):List UInt8:=l.map fun n=>UInt8.ofNat n.toNat
theorem Jx: ∀ {l:List Int},(∀ n∈l,0<=n/\n<256)->HN (l.flatMap (eI .u8))
 | [],_=>trivial
 | n::l,h=>by rw [flatMap_cons];exact⟨h n (by simp),Jx (fun m hm=>h m (by simp [hm]))⟩
theorem KY: ∀ (l:List Int),Jq (l.flatMap (eI .u8))=G4 l
 | []=>rfl
 | n::l=>by rw [flatMap_cons];show UInt8.ofNat n.toNat::Jq (l.flatMap (eI .u8))=_;rw [KY l];rfl
end Go.PL
namespace Go.PL
open Go Go.RowKit
theorem T3 {α:Type} (e:α->List C) {N:Nat} (hN: ∀ y,(e y).length =N): ∀ (l:List α) (k:Nat) (x:α),l[k]? =some x->l.flatMap e=(l.take k).flatMap e++(e x++(l.drop (k+1)).flatMap e)/\((l.take k).flatMap e).length =k*N
 | [],k,x,h=>by simp at h
 | a::l,0,x,h=>by grind
 | a::l,k+1,x,h=>by
   obtain⟨h1,h2⟩:=T3 e hN l k x (by simpa using h);constructor
   ·rw [flatMap_cons,h1];simp [append_assoc]
   ·simp [h2,hN,Nat.add_mul];omega
theorem XV {α:Type} (e:α->List C): ∀ (l:List α) (k:Nat) (x':α),k<l.length->(l.set k x').flatMap e=(l.take k).flatMap e++(e x'++(l.drop (k+1)).flatMap e)
 | [],k,x,h=>by simp at h
 | a::l,0,x,h=>by simp
 | a::l,k+1,x,h=>by rw [List.set_cons_succ,flatMap_cons,XV e l k x (by simpa using h)];simp [append_assoc]
theorem zl {α:Type} [Inhabited α] {l:List α} {i:Int} {x x':α} {e:α->List C} {N o off:Nat} {cs pre post:List C} (hx:idx l i=some x) (hN: ∀ y,(e y).length =N) (aaC:off=pre.length+(i.toNat*N+o)) (ho:o+cs.length<=N)
 (hx':(e x).take o++(cs++(e x).drop (o+cs.length))=e x'):off+cs.length<=(pre++(l.flatMap e++post)).length /\
  (pre++(l.flatMap e++post)).take off++cs++(pre++(l.flatMap e++post)).drop (off+cs.length)=pre++((l.set i.toNat x').flatMap e++post):=by
 have hb:=N7 hx;have Tw:i.toNat<l.length:=by omega
 have hk:l[i.toNat]? =some x:=by rw [de hx,List.getElem?_eq_getElem Tw,List.getD_eq_getElem?_getD,List.getElem?_eq_getElem Tw];rfl
 obtain⟨h1,h2⟩:=T3 e hN l i.toNat x hk;have h3:=XV e l i.toNat x' Tw;have hex:=hN x;rw [h1,h3, <-hx'];subst aaC;generalize (l.take i.toNat).flatMap e=A at *;generalize (l.drop (i.toNat+1)).flatMap e=B at *;generalize e x=X at *;constructor
 ·grind
 ·have e1:pre++(A++(X++B)++post)=(pre++(A++X.take o))++((X.drop o).take cs.length++(X.drop (o+cs.length)++(B++post))):=by grind [drop_drop,take_append_drop]
  have l1:(pre++(A++X.take o)).length =pre.length+(i.toNat*N+o):=by grind
  have l2:((X.drop o).take cs.length).length =cs.length:=by grind
  generalize (X.drop o).take cs.length=M at *;generalize X.drop (o+cs.length)=Z at *;rw [e1, <-l1,List.take_left, <-drop_drop,drop_left, <-l2,drop_left];grind
theorem qA {α:Type} [Inhabited α] {l l':List α} {i:Int} {x x':α} {e:α->List C} {N o off base:Nat} {c0 c1 cs pre post:List C} (hc0:c0=pre++(l.flatMap e++post)) (hb:pre.length=base) (hc1:c1=pre++(l'.flatMap e++post)) (hl:l'=l.set i.toNat x') (hx:idx l i=some x) (hN: ∀ y,(e y).length =N)
 (aaC:off=base+(i.toNat*N+o)) (ho:o+cs.length<=N) (hx':(e x).take o++(cs++(e x).drop (o+cs.length))=e x'):off+cs.length<=c0.length/\c0.take off++cs++c0.drop (off+cs.length)=c1:=by
 subst hc0 hc1 hl hb;exact zl hx hN aaC ho hx'
end Go.PL
namespace Go.PL
open Go Go.RowKit
def slots:Nat->Nat->List (Nat×V)->List V
 | 0,_,_=>[]
 | n+1,i,[]=> .undef ::slots n (i+1) []
 | n+1,i,(j,v)::l=>match Nat.beq i j with
   | true=>v::slots n (i+1) l
   | false=> .undef ::slots n (i+1) ((j,v)::l)
def V.afN:V->Bool
 | .undef =>false
 | _=>true
def yi (st an:St):St:=⟨Rf (an.tm.map V.afN) st.tm,st.so.filter (fun e=>an.so.any fun e'=>e'.id==e.id),Rf (an.gh.map V.afN) st.gh,st.pre⟩
def zm (st an:St):Bool:=Nat.beq an.tm.length st.tm.length&&Nat.beq an.gh.length st.gh.length
theorem nV {st an:St} (hl:zm st an=true):B0 st (yi st an):=by simp only [zm,and_eq_true]at hl;have a:=(lH (m:=an.tm.map V.afN) (l:=st.tm) (by simp_all) rfl).get;have b:=(lH (m:=an.gh.map V.afN) (l:=st.gh) (by simp_all) rfl).get;exact⟨a.1,a.2,fun _ he=>(mem_filter.1 he).1,fun hn=>List.Sublist.nodup (List.Sublist.map (fun d:Ar=>d.id) filter_sublist) hn,b,rfl⟩
def lI (st an:St):Option St:=match zm st an with
 | true=>some (yi st an)
 | false=>none
theorem B0.t {st an:St} (h:lI st an=some an):B0 st an:=by grind [lI,nV]
def dj (o:Option (List Prop×St)) (an:St):Option (List Prop×St):=
 match o with
 | some (cs,st)=>match lI st an with
   | some s=>some (cs,s)
   | none=>none
 | none=>none
theorem iM {o:Option (List Prop×St)} {an:St} {cs:List Prop} (h:dj o an=some (cs,an)): ∃ st,o=some (cs,st)/\B0 st an:=by
 unfold dj at h;split at h
 ·rename_i Tk st;split at h
  ·rename_i s hs;simp only [Option.some.injEq,injEq]at h;obtain⟨rfl,rfl⟩:=h;exact⟨st,rfl,B0.t hs⟩
  ·cases h
 ·cases h
section
variable {P:Program} {F:Fr} {st:St}
theorem Ak.rg {id:Nat} {l:List Oper} {c:Code} {Q:Exit->St->Prop} {ss:List Stp} {cs:List Prop} (an:St) (hr:dj (T0 P F.I false l.toArray l ss st) an=some (cs,an)) (hl:A0 cs) (h:Ak P F c an Q):Ak P F (.seq (.region id l.toArray false) c) st Q:=by obtain⟨st1,h1,h2⟩:=iM hr;exact Ak.seq (Ak.reg h1 hl (Ak.less h2 h))
end
abbrev vB (b:Bool):V:= .c (.bool b)
abbrev vS (s:List UInt8):V:= .c (.str s)
abbrev vO (i:Ad):V:= .c (.l_ i)
abbrev vL {α:Type} (e:α->List C) (l:List α):V:= .c (.sl l.length (l.flatMap e))
abbrev vA {α:Type} (e:α->List C) (x:α):V:= .agg (e x)
abbrev rw_ {α:Type} (i:Ad) (E N:Nat) (e:α->List C) (l:List α):Ar:=⟨i,some (E,N,l.length),l.flatMap e,true⟩
end Go.PL
namespace Go.PL
end Go.PL
namespace Go.PL
open Go Go.RowKit
def St.setCell (st:St) (i:Ad) (j:Nat) (c:C):St:={st with so:=st.so.map fun e=>if e.id==i&& !e.pu then⟨e.id,e.row,e.cs.set j c,false⟩else e}
def St.adp (st:St) (i:Ad) (j:Nat):Bool:=
 match st.look i with
 | some e=> !e.pu&&(match e.cs[j]? with
   | some .P_ =>true
   | _=>false)
 | none=>false
theorem Nd {w:World} {G:Ax}: ∀ {cs:List C} {b o j:Nat} {c:C},Ai w G cs b o->(∀ v d,cs[j]? =some d->Ab w G d v->Ab w G c v)->Ai w G (cs.set j c) b o
 | [],_,_,_,_,h,_=>by grind
 | d::cs,b,o,0,c,h,hc=>by grind [Ai]
 | d::cs,b,o,j+1,c,h,hc=>by simp only [Ai]at h;simp only [List.set_cons_succ,Ai];exact⟨h.1,Nd h.2 (fun v d hd=>hc v d (by simpa using hd))⟩
theorem R.setCell {F:Fr} {st:St} {a:Act} {w:World} {G:Ax} (h:R F st a w G) {i k:Ad} {j:Nat} (hn:st.adp i j=true) (hk:G.own k=some (.slice none 0 0)):R F (st.setCell i j (.l_ k)) a w G:={
 dfr:=h.dfr,size:=h.size,slots:=h.slots,t_:=h.t_
 store:=by
  intro e' X_;simp only [St.setCell,mem_map]at X_;obtain⟨e,he,rfl⟩:=X_;split
  ·rename_i hc;simp only [and_eq_true,beq_iff_eq,not_eq_true']at hc;have hE:=h.store e he;have hee: ∃ x,st.look i=some x/\x=e:=by
    unfold St.adp at hn;cases hl:st.look i with
    | none=>grind
    | some x=>
      refine⟨x,rfl,?_⟩;obtain⟨hm,hid⟩:=AZ hl;have hp:=List.pairwise_map.1 h.nodup;rcases mem_iff_getElem.1 hm with ⟨p,hp1,rfl⟩;rcases mem_iff_getElem.1 he with ⟨q,hq1,rfl⟩;grind [List.pairwise_iff_getElem]
   obtain⟨x,hx,rfl⟩:=hee;have agY:x.cs[j]? =some .P_ :=by unfold St.adp at hn;grind
   have hc': ∀ v d,x.cs[j]? =some d->Ab w G d v->Ab w G (.l_ k) v:=by intro v d hd hr;rw [agY]at hd;injection hd with hd;subst hd;simp only [Ab]at hr ⊢;subst hr;exact⟨hk,rfl⟩
   unfold AN at hE ⊢;simp only;split at hE
   ·rename_i hrn;obtain⟨b,h1,hbx⟩:=hE;obtain⟨T,cur,h2,h3,h4⟩:=hbx.cells (Sw hx hrn);exact⟨b,h1, .inr ⟨T,cur,h2,by simpa using h3,Nd h4 hc'⟩⟩
   ·obtain⟨hl,v,h1,h2⟩:=hE;refine⟨by grind,v,h1,?_⟩;rcases h2 with h2 | ⟨b,cap,cur,e1,e2,e3,e4,e5,e6,e7⟩
    ·grind
    ·exact .inr ⟨b,cap,cur,e1,e2,e3,e4,e5,e6,Nd e7 hc'⟩
  ·exact h.store e he
 deep:=by
  intro e' X_;simp only [St.setCell,mem_map]at X_;obtain⟨e,he,rfl⟩:=X_;split
  ·rename_i hc;simp only [and_eq_true,beq_iff_eq,not_eq_true']at hc;exact⟨(h.deep e he).1,fun hq=>absurd ((h.deep e he).2 hq).1 (by simp [hc.2])⟩
  ·exact h.deep e he
 k_:=by
  intro e' X_;simp only [St.setCell,mem_map]at X_;obtain⟨e,he,rfl⟩:=X_;split
  ·grind
  ·exact h.k_ e he
 nodup:=by
  have:((st.setCell i j (.l_ k)).so.map (·.id))=st.so.map (·.id):=by simp only [St.setCell,map_map];apply List.map_congr_left;grind
  rw [this];exact h.nodup
 inj:=h.inj,lt:=h.lt,new:=h.new,wr:=h.wr,Tu:=h.Tu,inv:=h.inv,Kq:=h.Kq,os:=h.os,tape:=h.tape,output:=h.output,hsize:=h.hsize,ext:=h.ext}
end Go.PL
namespace Go.PL
open Go
theorem A1 {x:Int} (h0: -9223372036854775808<=x) (h1:x<=9223372036854775807):Aj x=x:=by grind [Aj,IntKind.wrap_i64]
theorem Nf {x:Int} (h0:0<=x) (h1:x<=18446744073709551615):IntKind.u64.wrap x=x:=by unfold IntKind.wrap;simp only [IntKind.bits,IntKind.signed,Bool.false_and];simp;omega
theorem nW {x:Int} (h0:0<=x) (h1:x<=255):IntKind.u8.wrap x=x:=by unfold IntKind.wrap;simp only [IntKind.bits,IntKind.signed,Bool.false_and];simp;omega
section
variable {σ ρ:Type} {B:σ->Option (σ⊕ρ)}
theorem Dy {n:Nat} {s s':σ} (h:B s=some (.inl s')):iter B (n+1) s=iter B n s':=by simp [iter,h]
theorem B6 {n:Nat} {s:σ} {r:ρ} (h:B s=some (.inr r)):iter B (n+1) s=some r:=by simp [iter,h]
theorem dk {S:Nat->σ} {r:ρ} {j:Nat} (hs: ∀ i,i<j->B (S i)=some (.inl (S (i+1)))) (he:B (S j)=some (.inr r)): ∀ (k N i:Nat),i+k=j->k<N->iter B N (S i)=some r
 | 0,N+1,i,hi,_=>by obtain rfl:i=j:=by omega
                    exact B6 he
 | k+1,N+1,i,hi,hN=>by rw [Dy (hs i (by omega))];exact dk hs he k N (i+1) (by omega) (by omega)
theorem L4 (S:Nat->σ) {r:ρ} (j:Nat) (hj:j<9223372036854775807) (hs: ∀ i,i<j->B (S i)=some (.inl (S (i+1)))) (he:B (S j)=some (.inr r)) {s0:σ} (h0:s0=S 0):iter B FU s0=some r:=by subst h0;exact dk hs he j FU 0 (by omega) hj
end
section
variable {α:Type} [Inhabited α] {l:List α} {i:Int}
theorem N8 (h:0<=i/\i<l.length):idx l i=some (l.getD i.toNat default):=if_pos h
theorem AV {k:Nat} (h:k<l.length):idx l (k:Int)=some l[k]:=by grind [N8]
theorem ZN (o:Option α):gd true o=o:=if_pos rfl
theorem dn (o:Option α):gd false o=some default:=if_neg (by simp)
end
theorem dq {α:Type} {b:Nat} {l m:List α} (h:(l.length+m.length)*b<=140737488355328/\l.length+m.length<=maxLen):app b l m=some (l++m):=if_pos h
theorem IU {a b:List UInt8} (h:a.length+b.length<=maxLen):cat a b=some (a++b):=if_pos h
theorem XW {p:Prop} [Decidable p] (h:p):DG p=some ():=if_pos h
def vy (n:Int):UInt8:=UInt8.ofNat (48+(n.toNat % 10))
theorem Jy (k u:Nat) (h:u<10 ^ (k+1)):(Lib.decDigits u).length <=k+1:=by
 induction k generalizing u with
 | zero=>simp_all [Lib.decDigits]
 | succ k ih=>
   grind [Lib.decDigits]
theorem ZO {n:Int} (h0: -9223372036854775808<=n) (h1:n<=9223372036854775807):(Lib.itoa n).length <=21:=by
 unfold Lib.itoa;split
 ·have:=Jy 19 n.natAbs (by omega);simp;omega
 ·have:=Jy 19 n.toNat (by omega);omega
theorem dt {u:Int} (h0:0<=u):Lib.decDigits u.toNat=(if u / 10=0 then [] else Lib.decDigits (u / 10).toNat)++[vy u]:=by
 conv=>lhs;rw [Lib.decDigits]
 by_cases h:u.toNat<10
 ·rw [dif_pos h,if_pos (by omega),vy,Nat.mod_eq_of_lt h];rfl
 ·have e:u.toNat / 10=(u / 10).toNat :=by omega
  rw [dif_neg h,if_neg (by omega),vy,e]
def nX (u:Int) (s:List UInt8):Option ((Int×(List UInt8))⊕((List UInt8))):=
 (if(decide ((0:Int)<u)) then
  (DG (∀ n∈([IntKind.u8.wrap (IntKind.u64.wrap ((48:Int)+(Int.tmod u (10:Int))))]:List (Int)),0<=n/\n<256)).bind fun _=>
  (cat (G4 ([IntKind.u8.wrap (IntKind.u64.wrap ((48:Int)+(Int.tmod u (10:Int))))]:List (Int))) s).bind fun s12=>
  some (.inl ((IntKind.u64.wrap (Int.tdiv u (10:Int))),s12))
 else
  some (.inr s))
def ZP (a0:Int):Option ((List UInt8)):=
 (DG (∀ n∈([IntKind.u8.wrap (IntKind.u64.wrap ((48:Int)+(Int.tmod a0 (10:Int))))]:List (Int)),0<=n/\n<256)).bind fun _=>
 (iter (fun(v:Int×(List UInt8))=>nX v.1 v.2) FU ((IntKind.u64.wrap (Int.tdiv a0 (10:Int))),(G4 ([IntKind.u8.wrap (IntKind.u64.wrap ((48:Int)+(Int.tmod a0 (10:Int))))]:List (Int))))).bind (fun o0=>some o0)
def lJ (a0:Int):Option ((List UInt8)):=
 (if(decide (a0<(0:Int))) then
  (ZP (IntKind.u64.wrap (0 - (IntKind.u64.wrap (a0))))).bind fun r2=>
  (cat [45] r2).bind fun s3=>
  some s3
 else
  (ZP (IntKind.u64.wrap (a0))).bind fun r4=>
  some r4)
theorem lK {u:Int} (h0:0<=u) (h1:u<=18446744073709551615):IntKind.u8.wrap (IntKind.u64.wrap ((48:Int)+(Int.tmod u (10:Int))))=48+((u.toNat % 10:Nat):Int):=by grind [Nf,nW]
theorem lL {u:Int} (h0:0<=u) (h1:u<=18446744073709551615):IntKind.u64.wrap (Int.tdiv u (10:Int))=u / 10:=by grind [Nf]
theorem du {u:Int} (h0:0<=u) (h1:u<=18446744073709551615): ∀ n∈([IntKind.u8.wrap (IntKind.u64.wrap ((48:Int)+(Int.tmod u (10:Int))))]:List (Int)),0<=n/\n<256:=by grind [lK]
theorem XX {u:Int} (h0:0<=u) (h1:u<=18446744073709551615):G4 ([IntKind.u8.wrap (IntKind.u64.wrap ((48:Int)+(Int.tmod u (10:Int))))]:List (Int))=[vy u]:=by grind [lK,G4,vy]
theorem vz {u:Int} {s:List UInt8} (h0:0<u) (h1:u<=18446744073709551615) (hs:s.length<=1000):nX u s=some (.inl (u / 10,vy u::s)):=by unfold nX;rw [if_pos (by simpa using h0),XW (du (by omega) h1),XX (by omega) h1,IU (by simp [maxLen];omega),lL (by omega) h1];rfl
theorem dv (s:List UInt8):nX 0 s=some (.inr s):=by simp [nX]
theorem dw: ∀ (k:Nat) (u:Int) (s:List UInt8) (N:Nat),0<=u->u<10 ^ k->u<=18446744073709551615->s.length+k<=1000->k<N->
 iter (fun(v:Int×(List UInt8))=>nX v.1 v.2) N (u,s)=some ((if u=0 then [] else Lib.decDigits u.toNat)++s)
 | 0,u,s,N+1,h0,h1,h2,hs,hN=>by
   obtain rfl:u=0:=by grind
   grind [B6,dv]
 | k+1,u,s,N+1,h0,h1,h2,hs,hN=>by
   by_cases hu:u=0
   ·grind [B6,dv]
   ·rw [Dy (s':=(u / 10,vy u::s)) (vz (by omega) h2 (by show s.length<=1000;omega)),dw k (u / 10) (vy u::s) N (by omega) (by grind) (by omega) (by simp;omega) (by omega)];simp_all [dt]
theorem XY {u:Int} (h0:0<=u) (h1:u<=18446744073709551615):ZP u=some (Lib.decDigits u.toNat):=by unfold ZP;rw [XW (du h0 h1),XX h0 h1,lL h0 h1];simp only [Option.bind_some];rw [dw 20 (u / 10) [vy u] FU (by omega) (by omega) (by omega) (by simp) (by simp [FU])];grind [dt]
theorem dx {n:Int} (h0: -9223372036854775808<=n) (h1:n<=9223372036854775807):lJ n=some (Lib.itoa n):=by
 have wu: ∀ x:Int,IntKind.u64.wrap x=x % 18446744073709551616:=by grind [IntKind.wrap,IntKind.bits,IntKind.signed]
 unfold lJ Lib.itoa;by_cases hn:n<0
 ·rw [if_pos (by simpa using hn),if_pos hn];have e:IntKind.u64.wrap (0 - IntKind.u64.wrap n)= -n:=by grind
  rw [e,XY (by omega) (by omega)];have hl:=Jy 19 (-n).toNat (by omega);grind [IU,maxLen]
 ·rw [if_neg (by simpa using hn),if_neg hn,Nf (by omega) (by omega),XY (by omega) (by omega)];rfl
end Go.PL
namespace Go.PL
open Go Go.RowKit Go.WideShapes Go.ChangeShapes
def BS (k:IntKind) (v:Int):Prop:=(Lit.int k v).wf =true
def ZQ (_:Bool):Prop:=True
def okS (v:List UInt8):Prop:=v.length<=reachBytes
def SD {α:Type} (b:Nat) (ok:α->Prop) (l:List α):Prop:=l.length*b<=reachBytes/\ ∀ y∈l,ok y
section
variable {P:Program} {t e:TypeId} {n:Nat} {cs:List C}
theorem dI {k:IntKind} (hu:P.underlying t=some (.int k)) (h:AM P n t cs): ∃ z,cs=eI k z/\BS k z:=nN hu h
theorem dB (hu:P.underlying t=some .bool) (h:AM P n t cs): ∃ b,cs=eB b/\ZQ b:=iv hu h
theorem dS (hu:P.underlying t=some .string) (h:AM P n t cs): ∃ s,cs=eS s/\okS s:=nO hu h
theorem dL {α:Type} {enc:α->List C} {ok:α->Prop} {b:Nat} (hu:P.underlying t=some (.slice e)) (hb:P.bytesOf e=b) (hd: ∀ {n ds},AM P n e ds-> ∃ x,ds=enc x/\ok x) (h:AM P n t cs):
 ∃ l:List α,cs=eL enc l/\SD b ok l:=qe hu hb (fun _ _=>hd) h
theorem dA {α:Type} {m:Nat} {enc:α->List C} {ok:α->Prop} (hu:P.underlying t=some (.array m e)) (hd: ∀ {n ds},AM P n e ds-> ∃ x,ds=enc x/\ok x) (h:AM P n t cs):
 ∃ l:List α,l.length=m/\cs=l.flatMap enc/\ ∀ y∈l,ok y:=by
 cases n with
 | zero=>exact h.elim
 | succ n=>
   simp only [AM,hu]at h;obtain⟨B2,rfl,h2,h3⟩:=h;obtain⟨l,rfl,h5⟩:=TS (fun _=>hd) h3;grind
end
section
variable {R:TypeId->List C->Prop}
theorem Ah {t:TypeId} {ts:List TypeId} {α β:Type} {e:α->List C} {E:β->List C} {ok:α->Prop} {OK:β->Prop} (hd: ∀ {ds},R t ds-> ∃ x,ds=e x/\ok x) (hr: ∀ {B2},PO R ts B2-> ∃ y,B2.flatten=E y/\OK y) {B2:List (List C)} (h:PO R (t::ts) B2):
 ∃ p:α×β,B2.flatten=e p.1++E p.2/\ok p.1/\OK p.2:=by
 simp only [PO]at h;obtain⟨ds,r,rfl,h1,h2⟩:=h;obtain⟨x,rfl,h3⟩:=hd h1;obtain⟨y,h4,h5⟩:=hr h2;exact⟨(x,y),by grind,h3,h5⟩
theorem Dc {B2:List (List C)} (h:PO R [] B2): ∃ _:Unit,B2.flatten=[]/\True:=by simp only [PO]at h;simp_all
end
section
variable {H:Type} {enc:TypeId×Value->H} {P:Program} {W:World} {spare:Nat->Bool} {r:Reach} {base:Nat} {t:TypeId} {v:Value} {d:DataW H} {ps:List MemPlace}
theorem iN {ts:List TypeId} {ds:List (DataW H)} (h:(DataW.weightsEach P (t::ts) (d::ds)).all (· <=reachBytes)=true):(d.weights P t).all (· <=reachBytes)=true/\(DataW.weightsEach P ts ds).all (· <=reachBytes)=true:=by simp_all [DataW.weightsEach]
theorem vC {α:Type} {e:α->List C} {ok:α->Prop} {fs:Array Field} (k:Nat) (hk:ya P k t=true) (hu:P.underlying t=some (.struct fs)) (hd: ∀ {n cs},AM P n t cs-> ∃ x,cs=e x/\ok x)
 (hv:Value.okWide P W r base t v) (h:DataW.Trod enc P W 0 spare true t v d ps) (hw:(d.weights P t).all (· <=reachBytes)=true): ∃ x,ok x/\Aa W (im fun _=>False) (vA e x) v:=by
 obtain⟨arr,rfl,_⟩:=okWide_struct hu hv;obtain⟨fuel,h⟩:=h;obtain⟨cs,h1,h2,_⟩:=KT (G:=im fun _=>False) (fun _ _ h=>h) k t hk fuel _ _ h hw;obtain⟨x,rfl,h4⟩:=hd h2;exact⟨x,h4,by simp only [Aa];exact⟨arr,rfl,h1⟩⟩
end
end Go.PL
namespace Go.PL
open Go
def W {α:Type} (o:Option α) (Q:α->Prop):Prop:= ∃ r,o=some r/\Q r
def LQ {σ ρ:Type} (I:σ->Prop) (m:σ->Nat) (s:σ) (K:ρ->Prop):σ⊕ρ->Prop:=Sum.elim (fun s'=>I s'/\m s'<m s) K
section
variable {α β σ ρ:Type} {o:Option α} {P Q':α->Prop} {f:α->Option β} {Q:β->Prop} {v:α} {g c:Bool}
theorem W.bd (h:W o P) (k: ∀ x,P x->W (f x) Q):W (o.bind f) Q:=by obtain⟨r,rfl,h2⟩:=h;exact k r h2
theorem W.lt (k: ∀ x,x=v->W (f x) Q):W ((some v).bind f) Q:=k v rfl
theorem W.rt {v:β} (h:Q v):W (some v) Q:=⟨v,rfl,h⟩
theorem W.if {a b:Option β} (k1:c=true->W a Q) (k2:c=false->W b Q):W (if c then a else b) Q:=by grind
theorem W.imp {Q2:α->Prop} (h:W o P) (k: ∀ x,P x->Q2 x):W o Q2:=by obtain⟨r,h1,h2⟩:=h;exact⟨r,h1,k r h2⟩
theorem W.gb [Inhabited α] (h:g=true->W o P) (k: ∀ x,(g=true->P x)->W (f x) Q):W ((gd g o).bind f) Q:=by
 cases g
 ·exact k default (fun h=>by cases h)
 ·obtain⟨r,h1,h2⟩:=h rfl;grind [ZN]
theorem dy [Inhabited α] {l:List α} {i:Nat} (h:i<l.length):l.getD i default∈l:=by grind
theorem W.idx [Inhabited α] {l:List α} {i:Int} (h:0<=i/\i<l.length):W (idx l i) (fun e=>e∈l/\e=l.getD i.toNat default/\idx l i=some e):=
 ⟨_,N8 h,dy (by omega),rfl,N8 h⟩
theorem W.re (h:o=some v) (k:W (f v) Q):W (o.bind f) Q:=by grind
theorem W.app {b:Nat} {l m:List α} (h:(l.length+m.length)*b<=140737488355328) (h2:l.length+m.length<=maxLen):W (app b l m) (fun e=>e=l++m):=⟨_,dq ⟨h,h2⟩,rfl⟩
theorem W.cat {a b:List UInt8} (h:a.length+b.length<=9223372036854775807):W (cat a b) (fun e=>e=a++b/\e.length=a.length+b.length):=⟨_,IU (by unfold maxLen;omega),rfl,List.length_append⟩
theorem W.nx {I:σ->Prop} {m:σ->Nat} {s s':σ} {K:ρ->Prop} (h:I s') (h2:m s'<m s):W (some (.inl s':σ⊕ρ)) (LQ I m s K):=⟨_,rfl,h,h2⟩
theorem W.ex {I:σ->Prop} {m:σ->Nat} {s:σ} {K:ρ->Prop} {r:ρ} (h:K r):W (some (.inr r:σ⊕ρ)) (LQ I m s K):=⟨_,rfl,h⟩
theorem qB {B:σ->Option (σ⊕ρ)} {I:σ->Prop} {m:σ->Nat} {K:ρ->Prop} (hs: ∀ s,I s->W (B s) (LQ I m s K)): ∀ (n:Nat) (s:σ),I s->m s<n->W (iter B n s) K
 | 0,_,_,h=>by omega
 | n+1,s,hI,hm=>by
   obtain⟨x,h1,h2⟩:=hs s hI;cases x with
   | inl s'=>rw [Dy h1];exact qB hs n s' h2.1 (by have:=h2.2;omega)
   | inr r=>rw [B6 h1];exact⟨r,rfl,h2⟩
theorem W.it {B:σ->Option (σ⊕ρ)} {f:ρ->Option β} {s0:σ} (I:σ->Prop) (m:σ->Nat) (h0:I s0) (hm:m s0<9223372036854775807) (hs: ∀ s,I s->W (B s) (LQ I m s (fun r=>W (f r) Q))):W ((iter B FU s0).bind f) Q:=by obtain⟨r,h1,h2⟩:=qB hs FU s0 h0 hm;grind
end
theorem W.aaZ {l:List UInt8} {i:Int} (h:0<=i/\i<l.length):W (aaZ l i) (fun e=>0<=e/\e<256):=by
 refine⟨_,if_pos h,?_,?_⟩
 ·omega
 ·have:=(l.getD i.toNat 0).toNat_lt;omega
theorem bz:(∀ {p:Prop} [Decidable p] {b:Bool},((if p then true else b)=true)=(p\/b=true))/\(∀ {p:Prop} [Decidable p] {b:Bool},((if p then true else b)=false)=(¬p/\b=false))/\(∀ {p:Prop} [Decidable p] {b:Bool},((if p then b else false)=true)=(p/\b=true))/\(∀ {p:Prop} [Decidable p] {b:Bool},((if p then b else false)=false)=(¬p\/b=false))/\(∀ {a:Bool},((!a)=true)=(a=false))/\(∀ {a:Bool},((!a)=false)=(a=true))/\(∀ {p:Prop} [Decidable p],(decide p=true)=p)/\(∀ {p:Prop} [Decidable p],(decide p=false)= ¬p)/\(∀ {a b:Int},((a==b)=true)=(a=b))/\(∀ {a b:Int},((a==b)=false)= ¬(a=b))/\(∀ {a b:Int},((a != b)=true)= ¬(a=b))/\(∀ {a b:Int},((a != b)=false)=(a=b))/\(∀ {a:Bool},((a==true)=true)=(a=true))/\(∀ {a:Bool},((a==true)=false)=(a=false))/\(∀ {a:Bool},((a==false)=true)=(a=false))/\(∀ {a:Bool},((a==false)=false)=(a=true))/\(∀ {a b:Bool},((a&&b)=true)=(a=true/\b=true))/\(∀ {a b:Bool},((a&&b)=false)=(a=false\/b=false))/\(∀ {a b:List UInt8},((a==b)=true)=(a=b))/\(∀ {a b:List UInt8},((a==b)=false)= ¬(a=b))/\(∀ {a b:List UInt8},((a != b)=true)= ¬(a=b))/\(∀ {a b:List UInt8},((a != b)=false)=(a=b))/\(∀ {a:Bool},(¬(a=true))=(a=false))/\(∀ {a:Bool},(¬(a=false))=(a=true))/\(∀ {p q:Prop},(¬(p\/q))=(¬p/\ ¬q)):=(by simp_all)
end Go.PL
namespace Go.PL
open Go
set_option linter.all false
theorem gdB (g q:Bool):gd g (some q)=some (g&&q):=by cases g<;>rfl
theorem ifA (b q:Bool):(if b then q else false)=(b&&q):=by grind
theorem yj (b q:Bool):(if b then true else q)=(b||q):=by grind
theorem bT (b:Bool):(b==true)=b:=by simp_all
theorem bF (b:Bool):(b==false)= !b:=by grind
section
variable {α:Type} [Inhabited α] [DecidableEq α] {l m:List α} {B:Int->Option (Int⊕(Unit⊕Unit))}
theorem zn (hl:l.length=m.length) (hB: ∀ (i:Nat) (h:i<l.length) (h':i<m.length),B (i:Int)=some (if l[i]=m[i]then .inl ((i:Int)+1)else .inr (.inl ()))) (hE:B (l.length:Int)=some (.inr (.inr ()))):
 ∀ (k i N:Nat),i+k=l.length->k<N->iter B N (i:Int)=some (if l.drop i=m.drop i then .inr ()else .inl ())
 | 0,i,N+1,hi,_=>by
   obtain rfl:i=l.length:=by omega
   grind [B6]
 | k+1,i,N+1,hi,hN=>by
   have h:i<l.length:=by omega
   have h':i<m.length:=by omega
   have:=hB i h h';rw [List.drop_eq_getElem_cons h,List.drop_eq_getElem_cons h'];by_cases he:l[i]=m[i]
   ·rw [if_pos he]at this;rw [Dy this];have e:((i:Int)+1)=((i+1:Nat):Int):=by omega
    rw [e,zn hl hB hE k (i+1) N (by omega) (by omega)];grind
   ·rw [if_neg he]at this;rw [B6 this,if_neg (fun h=>he (List.cons.inj h).1)]
end
theorem ifN (b q:Bool):(if b then some false else some q)=some (!b&&q):=by grind
theorem ifP (b q:Bool):(if b then some q else some false)=some (b&&q):=by grind
theorem aan (a b:Bool):(!a|| !(a&&b))=(!a|| !b):=by grind
section
variable {α:Type} [Inhabited α] [DecidableEq α] {l m:List α} {B:Int->Option (Int⊕(Unit⊕Unit))}
end
theorem SE {α:Type} [Inhabited α] (g:Bool) (x:α):gd g (some x)=some (if g then x else default):=by cases g<;>rfl
abbrev T {α:Type} (o:Option α):Prop:= ∃ r,o=some r
theorem iO {α:Type} {c:Bool} {a b:Option α} (h1:T a) (h2:T b):T (if c then a else b):=by grind
theorem lM {α:Type} [Inhabited α] {l:List α} {i:Nat} (h:i<l.length):l.getD i default=l[i]:=by grind
end Go.PL
namespace Go.PL
open Go Go.Lib
set_option linter.all false
end Go.PL
namespace Go.PL
open Go
set_option linter.all false
def LB (k:Nat) (l:List (List UInt8)):Prop:=l.length<=k/\ ∀ y∈l,y.length<=600
theorem LB.nil {k:Nat}:LB k []:=⟨by simp,by simp⟩
theorem LB.le {k m:Nat} {l:List (List UInt8)} (h:LB k l) (hk:k<=m):LB m l:=⟨by have:=h.1;omega,h.2⟩
theorem LB.add {k:Nat} {l:List (List UInt8)} {x:List UInt8} (h:LB k l) (hx:x.length<=600):LB (k+1) (l++[x]):=by
 refine⟨by have:=h.1;simp;omega,fun y hy=>?_⟩;rw [List.mem_append,List.mem_singleton]at hy;rcases hy with hy | rfl
 ·exact h.2 y hy
 ·exact hx
def yk (b:Nat):Option (List UInt8)->Bool
 | some w=>Nat.ble w.length b
 | none=>false
theorem Acn {b:Nat} {o:Option (List UInt8)} (h:yk b o=true):W o (fun r=>r.length<=b):=by
 cases o with
 | none=>cases h
 | some w=>exact⟨w,rfl,Nat.le_of_ble_eq_true h⟩
theorem nY {n b:Nat} {f:Int->Option (List UInt8)} (h:((List.range n).all fun i=>yk b (f (i:Int)))=true) {i:Nat} (hi:i<n):W (f (i:Int)) (fun r=>r.length<=b):=
 Acn (all_eq_true.1 h i (List.mem_range.2 hi))
theorem zo {n b:Nat} {f:Int->Option (List UInt8)} (h:((List.range n).all fun i=>yk b (f (i:Int)))=true) {i:Int} (h0:0<=i) (hi:i<n):W (f i) (fun r=>r.length<=b):=by have:=nY h (i:=i.toNat) (by omega);rwa [Int.toNat_of_nonneg h0]at this
section
variable {α β:Type} {Q:β->Prop} {k:Nat} {l:List (List UInt8)} {x:List UInt8}
theorem yl {J:List (List UInt8)->Option β} (h:LB k l) (hx:x.length<=600) (hJ: ∀ l',LB (k+1) l'->W (J l') Q) (hk:k<=1000:=by omega):W ((app 16 l ([x]:List (List UInt8))).bind J) Q:=by have h1:=h.1;refine W.bd (W.app (b:=16) (l:=l) (m:=[x]) (by simp;omega) (by unfold maxLen;simp;omega)) (fun e he=>?_);subst he;exact hJ _ (h.add hx)
theorem wSt {c:Bool} {J:List (List UInt8)->Option β} (h:LB k l) (hx:x.length<=600) (hJ: ∀ l',LB (k+1) l'->W (J l') Q) (hk:k<=1000:=by omega):W (if c then(app 16 l ([x]:List (List UInt8))).bind J else J l) Q:=
 W.if (fun _=>yl h hx hJ hk) (fun _=>hJ _ (h.le (by omega)))
theorem zp {c:Bool} {J:List (List UInt8)->Option β} (h:LB k l) (hx:x.length<=600) (hJ: ∀ l',LB (k+1) l'->W (J l') Q) (hk:k<=1000:=by omega):W (if c then J l else(app 16 l ([x]:List (List UInt8))).bind J) Q:=
 W.if (fun _=>hJ _ (h.le (by omega))) (fun _=>yl h hx hJ hk)
theorem R9 {a b:List UInt8} {f:List UInt8->Option β} (m:Nat) (h:a.length+b.length<=m) (hf: ∀ s,s.length=a.length+b.length->W (f s) Q) (hm:m<=100000000000:=by omega):W ((cat a b).bind f) Q:=
 W.bd (W.cat (by omega)) (fun s hs=>hf s hs.2)
def Rnd (i k:Nat) (r:(Int×List (List UInt8))⊕List (List UInt8)):Prop:= ∃ l',r= .inl ((i:Int)+1,l')/\LB (k+1) l'
theorem uR {i:Nat} {l':List (List UInt8)} (h:LB (k+1) l') (hi:i<=100000:=by omega):W (some (.inl (Aj ((i:Int)+1),l'))) (Rnd i k):=
 ⟨_,rfl,l',by rw [A1 (by omega) (by omega)],h⟩
theorem wLp {B:Int->List (List UInt8)->Option ((Int×List (List UInt8))⊕List (List UInt8))} {f:List (List UInt8)->Option β} (n:Nat) (hl:LB k l)
 (he: ∀ l,B (n:Int) l=some (.inr l)) (hs: ∀ (i m:Nat) l,i<n->m<=k+n->LB m l->W (B (i:Int) l) (Rnd i m)) (hf: ∀ l',LB (k+n) l'->W (f l') Q) (hn:n<=1000:=by omega):
 W ((iter (fun(v:Int×List (List UInt8))=>B v.1 v.2) FU (0,l)).bind f) Q:=by
 have key: ∀ (j i N:Nat) (l:List (List UInt8)),i+j=n->j<N->LB (k+i) l-> ∃ l',LB (k+n) l'/\iter (fun(v:Int×List (List UInt8))=>B v.1 v.2) N ((i:Int),l)=some l':=by
  intro j;induction j with
  | zero=>
    intro i N l hi hN hl;obtain⟨N,rfl⟩: ∃ M,N=M+1:=⟨N - 1,by omega⟩;obtain rfl:i=n:=by omega
    exact⟨l,hl,B6 (he l)⟩
  | succ j ih=>
    intro i N l hi hN hl;obtain⟨N,rfl⟩: ∃ M,N=M+1:=⟨N - 1,by omega⟩;obtain⟨r,h1,l',rfl,h2⟩:=hs i (k+i) l (by omega) (by omega) hl;obtain⟨l2,h3,h4⟩:=ih (i+1) N l' (by omega) (by omega) h2;refine⟨l2,h3,?_⟩;rw [Dy h1];exact h4
 obtain⟨l',h1,h2⟩:=key n 0 FU l (by omega) (by unfold FU;omega) hl;have h2':iter (fun(v:Int×List (List UInt8))=>B v.1 v.2) FU (0,l)=some l':=h2;rw [h2'];exact hf l' h1
theorem wMk {B:Int->Int->Option ((Int×Int)⊕Int)} {f:Int->Option β} {a:Int} {g:Int->Int} (n:Int) (hn:n<=1000)
 (hB: ∀ m k,B m k=if decide (k<n) then some (.inl (g m,Aj (k+1)))else some (.inr m)) (hf: ∀ m,W (f m) Q):W ((iter (fun(v:Int×Int)=>B v.1 v.2) FU (a,0)).bind f) Q:=by
 refine W.it (fun v=>0<=v.2/\(v.2<=n\/v.2<=0)) (fun v=>(n - v.2).toNat) ⟨by simp,by simp⟩ (by dsimp only;omega) (fun v hv=>?_);obtain⟨m,k⟩:=v;dsimp only at hv ⊢;rw [hB];refine W.if (fun h=>?_) (fun h=>W.ex (hf m))
 have h:=of_decide_eq_true h;have:=A1 (x:=k+1) (by omega) (by omega);exact W.nx (by dsimp only;omega) (by dsimp only;omega)
end
end Go.PL
namespace Go.PL
open Go Go.RowKit
theorem aC {p:Prop} {l:List Prop} (h:p) (k:A0 l):A0 (p::l):=⟨h,k⟩
theorem aN:A0 []:=trivial
abbrev sl (n:Nat) (l:List (Nat×V)) (so:List Ar):St:=⟨slots n 0 l,so,[],[]⟩
abbrev sg (n:Nat) (l:List (Nat×V)) (so:List Ar) (m:Nat) (g:List (Nat×V)) (p:Ad):St:=⟨slots n 0 l,so,slots m 0 g,p⟩
def Jz:List Ad->Bool
 | []=>true
 | i::l=> !(l.contains i)&&Jz l
theorem Fw: ∀ {l:List Ad},Jz l=true->l.Nodup
 | [],_=>by simp
 | i::l,h=>by simp only [Jz,and_eq_true,not_eq_true']at h;refine nodup_cons.2 ⟨fun hm=>?_,Fw h.2⟩;have:=List.contains_iff_mem.2 hm;rw [h.1]at this;cases this
section
variable {P:Program} {F:Fr} {st:St} {id:Nat} {l:List Oper} {c:Code} {Q:Exit->St->Prop} {cs:List Prop} {K:St->Prop}
theorem Rg (ss:List Stp) (an:St) (hl:A0 cs) (h:Ak P F c an Q) (hr:dj (T0 P F.I false l.toArray l ss st) an=some (cs,an):=by kernel_rfl):Ak P F (.seq (.region id l.toArray false) c) st Q:=Ak.rg an hr hl h
theorem At (an:St) (hh:Ak P F c an Q) (h:st=an:=by kernel_rfl):Ak P F c st Q:=h▸hh
theorem bQ {rs:List ResultVar} {e:Exit} {r':V} (v:V) (hr:v=r') (he:e= .normal \/e= .ret :=by first | exact .inr rfl | exact .inl rfl) (h:vv P st rs=some v:=by kernel_rfl) (hs:yh st rs v=v:=by kernel_rfl) (hp:v.pure=true:=by kernel_rfl):
 (e= .normal \/e= .ret)/\(CZ P st rs).1/\(CZ P st rs).2.pure =true/\(CZ P st rs).2=r':=vw he h hs hp hr
end
theorem Tn {K:St->Prop} {Q:Exit->St->Prop} {st:St} (h:K st):BW K Q .normal st:=h
theorem g0 (g:Bool):g=true->A0 []:=fun _=>trivial
theorem g1 (g:Bool):g=true->A0 [g=true->g=true]:=fun _=>⟨id,trivial⟩
theorem g2 (g:Bool):g=true->A0 [g=true->g=true,g=true->g=true]:=fun _=>⟨id,id,trivial⟩
section
variable {l:List Prop}
end
section
variable {α:Type} [Inhabited α] {g:Bool} {o:Option α} {x:α} {p:Prop}
theorem c0 (h:gd g o=some x) (k:o=some x->p):g=true->A0 []/\p:=fun hg=>⟨trivial,k (qx h hg)⟩
theorem c1 (h:gd g o=some x) (k:o=some x->p):g=true->A0 [g=true->g=true]/\p:=fun hg=>⟨⟨id,trivial⟩,k (qx h hg)⟩
theorem c2 (h:gd g o=some x) (k:o=some x->p):g=true->A0 [g=true->g=true,g=true->g=true]/\p:=fun hg=>⟨⟨id,id,trivial⟩,k (qx h hg)⟩
theorem c3 (h:gd g o=some x) (k:o=some x->p):g=true->A0 [g=true->g=true,g=true->g=true,g=true->g=true]/\p:=fun hg=>⟨⟨id,id,id,trivial⟩,k (qx h hg)⟩
end
section
variable {α:Type} [Inhabited α] {l m r:List α} {i:Int} {x:α} {e:α->List C} {N:Nat}
end
end Go.PL
namespace Go.PL
open Go Go.RowKit
theorem T4 {id:Ad} {v:V} (h:v.g_ id=false):DB id v=v:=by simp_all [DB]
theorem dz {id:Ad}: ∀ {l:List C},Bm id l=false->l.map (Ft id)=l
 | [],_=>rfl
 | c::l,h=>by simp only [Bm,or_eq_false_iff]at h;rw [map_cons,dz h.2,Ft,if_neg (by simp [h.1])]
def Ar.fre (id:Ad) (e:Ar):Bool:=e.pu|| !Bm id e.cs
theorem Ar.acC {id:Ad} {e:Ar} (h:e.fre id=true):e.kill id=e:=by obtain⟨i,r,cs,pu⟩:=e;cases pu<;>simp_all [Ar.fre,Ar.kill,dz]
def F7:List Nat->Nat->Bool
 | [],_=>false
 | x::l,j=>cond (Nat.beq x j) true (F7 l j)
theorem Dd: ∀ {l:List Nat} {j:Nat},F7 l j=true↔j∈l
 | [],j=>by simp [F7]
 | x::l,j=>by
   simp only [F7,mem_cons];cases h:Nat.beq x j
   ·simp only [cond_false,Dd (l:=l)];have:x ≠ j:=fun e=>by simp_all
    grind
   simp_all
def dC (ops:Array Oper) (i:Nat):List Nat:=match ops[i]? with
 | some o=>(o.after.toList.filter (Region.binds .any)).map (·.on)
 | none=>[]
def ZR (ops:Array Oper) (pr:List (List Nat)):Bool:=
 (List.range ops.size).all fun i=>(dC ops i).all (fun j=>Nat.blt j i&&F7 (pr.getD i []) j)&&(pr.getD i []).all fun j=>F7 (dC ops i) j||(dC ops i).any fun k=>F7 (pr.getD k []) j
def bv (v:List Bool):Nat->Bool:=fun j=>v.getD j false
section
variable {P:Program} {F:Fr} {ops:Array Oper}
end
end Go.PL
namespace Go.PL
open Go Go.RowKit
def Wk (st an:St):Prop:= ∀ (F:Fr) (a:Act) (w:World) (G:Ax),R F st a w G-> ∃ G',R F an a w G'
theorem Wk.less {st an:St} (h:B0 st an):Wk st an:=fun _ _ _ G hR=>⟨G,hR.less h⟩
theorem Wk.trans {a b c:St} (h:Wk a b) (k:Wk b c):Wk a c:=fun F x w G hR=>by obtain⟨G',q⟩:=h F x w G hR;exact k F x w G' q
theorem Wk.frz (st:St) (id:Ad):Wk st (st.freeze id):=fun _ _ _ _ hR=>by obtain⟨G',q,_⟩:=hR.freeze id;grind
theorem wT {st an:St} (h:lI st an=some an:=by kernel_rfl):Wk st an:=Wk.less (B0.t h)
section
variable {P:Program} {F:Fr} {st:St}
theorem Ak.wk {c:Code} {an:St} {Q:Exit->St->Prop} (h:Wk st an) (hh:Ak P F c an Q):Ak P F c st Q:=fun a w G hR=>by obtain⟨G',q⟩:=h F a w G hR;exact hh a w G' q
theorem Ak.akU {X:Type} (S:X->St) (inv:X->Prop) (μ:X->Nat) {c:Code} {Q:Exit->St->Prop} (x0:X) (h0:inv x0) (hl:Wk st (S x0))
 (hb: ∀ x,inv x->Ak P F c (S x) (BW (fun an=> ∃ y,inv y/\μ y<μ x/\Wk an (S y)) Q)):Ak P F (.loop c) st Q:=by
 refine Ak.loop (X:=X×St) (fun p=>p.2) (fun p=>inv p.1/\Wk p.2 (S p.1)) (fun p=>μ p.1) (x0,st) ⟨h0,hl⟩ (B0.refl _) (fun p hp=>?_);refine(Ak.wk hp.2 (hb p.1 hp.1)).mono fun e an q=>?_;cases e<;>simp only [BW]at q ⊢ <;>try exact q
 obtain⟨y,h1,h2,h3⟩:=q;exact⟨(y,an),⟨h1,h3⟩,h2,B0.refl _⟩
theorem It {σ ρ:Type} {B:σ->Option (σ⊕ρ)} (S:σ->St) {N:Nat} {s0:σ} {o:ρ} {c:Code} {Q:Exit->St->Prop} (hi:PL.iter B N s0=some o) (hl:Wk st (S s0))
 (hb: ∀ s z,B s=some z->(∀ o',z= .inr o'->o'=o)->Ak P F c (S s) (BW (fun an=> ∃ s',z= .inl s'/\Wk an (S s')) Q)):Ak P F (.loop c) st Q:=by
 refine Ak.akU (X:=Nat×σ) (fun x=>S x.2) (fun x=>PL.iter B x.1 x.2=some o) (fun x=>x.1) (N,s0) hi hl ?_;intro ⟨n,s⟩ hx;cases n with
 | zero=>simp [PL.iter]at hx
 | succ n=>
   simp only [PL.iter]at hx;cases hB:B s with
   | none=>grind
   | some z=>
     rw [hB]at hx;cases z with
     | inl s'=>
       refine(hb s _ hB (fun o' e=>by cases e)).mono fun e an q=>?_;cases e<;>simp only [BW]at q ⊢ <;>try exact q
       obtain⟨s'',e,hl'⟩:=q;injection e with e;subst e;exact⟨(n,s'),hx,Nat.lt_succ_self _,hl'⟩
     | inr r=>
       simp only [Option.some.injEq]at hx;refine(hb s _ hB (fun o' e=>by injection e with e;rw [<-e];exact hx)).mono fun e an q=>?_;cases e<;>simp only [BW]at q ⊢ <;>try exact q
       grind
theorem Sj {X:Type} (S:X->St) (Φ:X->Prop) {x y:Code} {Q:Exit->St->Prop} (hx:Ak P F x st (BW (fun an=> ∃ v,Φ v/\Wk an (S v)) Q)) (hy: ∀ v,Φ v->Ak P F y (S v) Q):Ak P F (.seq x y) st Q:=
 Ak.seq (hx.mono fun e an q=>by
  cases e<;>simp only [BW]at q ⊢ <;>try exact q
  grind [Ak.wk])
end
theorem XZ {α:Type} (e:α->List C) (x:α) {z:List C} (hz:z=e x) (hp:0<z.length): ∀ k,BB z k=(List.replicate k x).flatMap e:=by
 intro k;subst hz;apply List.ext_getElem?;intro i;have hlen:((List.replicate k x).flatMap e).length =k*(e x).length :=by simp_all
 by_cases hi:i<k*(e x).length
 ·have hm:i % (e x).length <(e x).length :=Nat.mod_lt _ hp;have key: ∀ k i,i<k*(e x).length ->((List.replicate k x).flatMap e)[i]? =(e x)[i % (e x).length]? :=by intro k;induction k<;>grind [Nat.mod_eq_of_lt,getElem?_append_right,Nat.mod_eq_sub_mod]
  grind [BB]
 grind [BB]
theorem qC {α:Type} {s c:List α} {a b:Int} (h:iL s a b=some c):0<=a/\a<=b/\b<=s.length:=by grind [iL]
theorem qD {α:Type} {s c:List α} {a b:Int} (h:iL s a b=some c):c=(s.drop a.toNat).take (b.toNat - a.toNat):=by grind [iL]
theorem Gw {α:Type} {e:α->List C} {N:Nat} (hN: ∀ x,(e x).length =N): ∀ (l:List α) (k:Nat),(l.flatMap e).drop (k*N)=(l.drop k).flatMap e
 | l,0=>by simp
 | [],k+1=>by simp
 | x::l,k+1=>by rw [flatMap_cons,List.drop_succ_cons, <-Gw hN l k,Nat.succ_mul,add_comm, <-drop_drop];congr 1;rw [<-hN x,drop_left]
theorem EW {α:Type} {e:α->List C} {N:Nat} (hN: ∀ x,(e x).length =N): ∀ (l:List α) (k:Nat),(l.flatMap e).take (k*N)=(l.take k).flatMap e
 | l,0=>by simp
 | [],k+1=>by simp
 | x::l,k+1=>by rw [flatMap_cons,List.take_succ_cons,flatMap_cons, <-EW hN l k,Nat.succ_mul,add_comm, <-hN x,List.take_length_add_append]
theorem AeA {α:Type} {l r:List α} {a b:Int} {e:α->List C} {N:Nat} (h:iL l a b=some r) (hN: ∀ x,(e x).length =N):V.c (.sl (b.toNat - a.toNat) (((l.flatMap e).drop (a.toNat*N)).take ((b.toNat - a.toNat)*N)))=vL e r:=by
 have hb:=qC h;rw [Gw hN,EW hN, <-qD h];have:r.length=b.toNat - a.toNat:=by rw [qD h,List.length_take,List.length_drop];omega
 grind
theorem agk {α:Type} {enc:α->List C} {n:Nat} (hn: ∀ x,(enc x).length =n) (l:List α):(l.flatMap enc).length =l.length*n:=DI hn l
end Go.PL
