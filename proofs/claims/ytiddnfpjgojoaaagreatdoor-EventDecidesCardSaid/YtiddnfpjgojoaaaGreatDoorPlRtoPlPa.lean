/- The pure logic: PlR, PlU, PlW, PlS, PlT, PlV, PlX, PlXd, PlXe, PlXf, PlY, PlZ, PlPa. -/
import Derived.Test.YtiddnfpjgojoaaaGreatDoorPlAtoPlQ
import Derived.LoopN
import Derived.ProofKit
import Derived.OpenShut
import Derived.Handy
import Derived.Lay
import Derived.LaidSub
import Derived.SevenTiedAt
import Derived.Lib.LaidTab
import Derived.Lib.ItoaNum
namespace Go.PL
open Go Go.RowKit
def eQ:List V→List V→Prop
 | [],[]=>True
 | a::l,b::m=>(b= .undef ∨b=a)∧eQ l m
 | _,_=>False
theorem eQ.get: ∀ {l m:List V},eQ l m→m.length=l.length∧ ∀ i,m.getD i .undef = .undef ∨m.getD i .undef =l.getD i .undef
 | [],[],_=>⟨rfl,fun _=> .inr rfl⟩
 | a::l,b::m,h=>by
   obtain⟨h1,h2⟩:=h
   obtain⟨q1,q2⟩:=eQ.get h2
   refine⟨by simp [q1],fun i=>?_⟩
   cases i with
   | zero=>simpa using h1
   | succ i=>simpa using q2 i
 | [],_::_,h=>h.elim
 | _::_,[],h=>h.elim
theorem sO (a b:Nat):(([a]:List Nat)==[b])=(a==b):=by simp [List.cons_beq_cons]
theorem sP (a b:Nat):(([a]:List Nat) != [b])=(a != b):=by simp [bne,List.cons_beq_cons]
theorem pO (a b c d:Nat):(([a,c]:List Nat)==[b,d])=(a==b&&c==d):=by simp [List.cons_beq_cons]
theorem vj (a b:Nat):(([a]:List Nat)=[b])=(a=b):=by simp
theorem eR (z:List C):Cg z 0=[]:=by simp [Cg]
theorem eT (z:List C) (k:Nat):Cg z (k+1)=z++Cg z k:=by
 unfold Cg
 have e:(k+1)*z.length=z.length+k*z.length:=by rw [Nat.add_mul,Nat.one_mul,Nat.add_comm]
 rw [e,List.range_add,List.map_append]
 congr 1
 ·apply List.ext_getElem<;>simp
  intro i h
  rw [Nat.mod_eq_of_lt h]
  simp [h]
 ·rw [List.map_map]
  apply List.map_congr_left
  intro i _
  simp [Function.comp]
theorem bP (k:IntKind) (l:List Int):AJ (l.map (C.int k))=true:=Nv _ (fun _=>rfl) l
theorem bR (l:List (List UInt8)):AJ (l.map C.str)=true:=Nv _ (fun _=>rfl) l
theorem Yu (l:List Bool):AJ (l.map C.bool)=true:=Nv _ (fun _=>rfl) l
theorem L4 {g:C→C} (hg: ∀ c:C,c.pure=true→g c=c): ∀ {l:List C},AJ l=true→l.map g=l
 | [],_=>rfl
 | c::l,h=>by
   simp only [AJ,Bool.and_eq_true]at h
   rw [List.map_cons,hg c h.1,L4 hg h.2]
theorem jv (id:AC) {c:C} (h:c.pure=true):Gb id c=c:=by simp [Gb,LS id c h]
theorem jw {l:List C} (id:AC) (h:AJ l=true):l.map (Gb id)=l:=L4 (fun _ hc=>jv id hc) h
theorem nY {id:AC} {len:Nat} {cs:List C} {c:C} (h:c.pure=true):UX id len cs c=c:=by
 cases c<;>simp_all [UX,C.pure,BP]
theorem nZ {id:AC} {len:Nat} {cs:List C} {l:List C} (h:AJ l=true):l.map (UX id len cs)=l:=L4 (fun _ hc=>nY hc) h
theorem n7 {c:C} (h:c.pure=true):PX c=[]:=by cases c<;>simp_all [PX,C.pure]
theorem ZE: ∀ {l:List C},AJ l=true→l.flatMap PX=[]
 | [],_=>rfl
 | c::l,h=>by
   simp only [AJ,Bool.and_eq_true]at h
   rw [List.flatMap_cons,n7 h.1,ZE h.2];rfl
attribute [go_sem] BN bP bR Yu jw nZ ZE BP
attribute [go_sem] sO sP pO vj eR eT Nat.reduceLeDiff Nat.reduceLT Nat.le_refl Nat.reduceBEq Nat.reduceBNe Nat.reduceMul Nat.reduceAdd Nat.reduceSub
end Go.PL
namespace Go.PL
open Go Go.RowKit
section
variable {P:Program} {F:Fr} {st:St} {c:Code} {Q:Exit→St→Prop}
end
end Go.PL
namespace Go.PL
open Go Go.RowKit
def PZ (st:St) (x:Operand):Option (FuncId×List C):=
 match st.ev x with
 | .c (.fn f)=>some (f,[])
 | .c (.clo f cs)=>some (f,cs)
 | _=>none
def St.enter (st:St) (k:Nat) (args:List V) (n:Nat):St:=⟨args++List.replicate (n - args.length) .undef,st.so,st.tm++st.gh,k::st.pre⟩
def St.back (st:St) (m:Nat) (pre:AC) (d:Option Nat) (r:V):St:=(⟨st.gh.take m,st.so,st.gh.drop m,pre⟩:St).put d r
def N6 (P:Program) (st:St):ResultVar→Prop×V
 | .tmp t=>(True,st.get t)
 | .cell t T=>Eo P T st (st.get t)
def DH (P:Program) (st:St):List ResultVar→Prop×List V
 | []=>(True,[])
 | x::xs=>((N6 P st x).1∧(DH P st xs).1,(N6 P st x).2::(DH P st xs).2)
def Cz (P:Program) (st:St):List ResultVar→Prop×V
 | [x]=>N6 P st x
 | xs=>((DH P st xs).1, .tup (DH P st xs).2)
section
variable {P:Program} {F:Fr} {st:St} {a:Act} {w:World} {G:Bp}
theorem Wd (h:R F st a w G) {x:ResultVar} (hs:(N6 P st x).1): ∃ v,(Jf a.tmps x).run P w= .ok v w∧Am w G (N6 P st x).2 v:=by
 cases x with
 | tmp t=>exact⟨_,rfl,h.slots t⟩
 | cell t T=>
   simp only [N6]at hs ⊢
   obtain⟨v,q1,q2⟩:=LT (P:=P) h (h.slots t) hs
   obtain⟨p,hptr⟩:=ZD (h.slots t) hs
   refine⟨v,?_,q1⟩
   have:=q2 w (Ft.refl w)
   rw [hptr]at this
   simp only [Jf,hptr,asAddr,Sem.run_bind,Sem.run_pure,Result.andThen_ok]
   simpa [Instr.loadAt,Instr.sureAddr] using this
theorem T0 (h:R F st a w G): ∀ {xs:List ResultVar},(DH P st xs).1→ ∃ vs,(xs.mapM (Jf a.tmps)).run P w= .ok vs w∧AO w G (DH P st xs).2 vs
 | [],_=>⟨[],by simp,by simp [DH,AO]⟩
 | x::xs,hs=>by
   simp only [DH]at hs ⊢
   obtain⟨v,q1,q2⟩:=Wd h hs.1
   obtain⟨vs,k1,k2⟩:=T0 h hs.2
   exact⟨v::vs,by simp [List.mapM_cons,q1,k1],by simp only [AO];exact⟨v,vs,rfl,q2,k2⟩⟩
theorem n8 {xs:List ResultVar}:(DH P st xs).2.length =xs.length:=by
 induction xs with
 | nil=>rfl
 | cons x xs ih=>simp [DH,ih]
theorem P0 (h:R F st a w G) {fn:Func} (hs:(Cz P st fn.results.toList).1): ∃ v,(results fn a.tmps).run P w= .ok v w∧Am w G (Cz P st fn.results.toList).2 v:=by
 generalize hx:fn.results.toList=xs at hs ⊢
 match xs,hx,hs with
 | [x],hx,hs=>
   simp only [Cz]at hs ⊢
   obtain⟨v,q1,q2⟩:=Wd h hs
   exact⟨v,by have:=Gf (P:=P) (w:=w) (fn:=fn) (tmps:=a.tmps) (vs:=[v]) (by rw [hx];simp [q1]);simpa using this,q2⟩
 | [],hx,hs=>
   refine⟨.tuple #[],?_,by simp [Cz,DH,Am,AO]⟩
   have:=Gf (P:=P) (w:=w) (fn:=fn) (tmps:=a.tmps) (vs:=[]) (by rw [hx];simp)
   simpa using this
 | x::y::xs,hx,hs=>
   simp only [Cz]at hs ⊢
   obtain⟨vs,q1,q2⟩:=T0 h hs
   refine⟨.tuple vs.toArray,?_,by simp only [Am];exact⟨_,rfl,by simpa using q2⟩⟩
   have:=Gf (P:=P) (w:=w) (fn:=fn) (tmps:=a.tmps) (by rw [hx];exact q1)
   rw [this]
   have hl:=D8 q2
   rw [n8]at hl
   match vs,hl with
   | v::u::vs,_=>rfl
theorem GZ {w:World} {G:Bp}: ∀ {xs ys:List V} {us vs:List Value},AO w G xs us→AO w G ys vs→AO w G (xs++ys) (us++vs)
 | [],_,us,_,h,h'=>by simp only [AO]at h;subst h;simpa using h'
 | x::xs,ys,us,vs,h,h'=>by
   simp only [AO]at h
   obtain⟨v,r,rfl,h1,h2⟩:=h
   simp only [List.cons_append,AO]
   exact⟨v,r++vs,rfl,h1,GZ h2 h'⟩
theorem T1 {w:World} {G:Bp}: ∀ {xs:List V} {us vs:List Value},AO w G xs (us++vs)→AO w G (xs.take us.length) us∧AO w G (xs.drop us.length) vs
 | xs,[],vs,h=>⟨by simp [AO],by simpa using h⟩
 | [],u::us,vs,h=>by simp [AO]at h
 | x::xs,u::us,vs,h=>by
   simp only [List.cons_append,AO]at h
   obtain⟨v,r,e,h1,h2⟩:=h
   injection e with e1 e2;subst e1 e2
   obtain⟨k1,k2⟩:=T1 h2
   simp only [List.length_cons,List.take_succ_cons,List.drop_succ_cons,AO]
   exact⟨⟨_,_,rfl,h1,k1⟩,k2⟩
theorem L5 {w:World} {G:Bp}: ∀ {xs:List V} {us:List Value},xs.length=us.length→(∀ i,Am w G (xs.getD i .undef) (us.getD i Go.undef))→AO w G xs us
 | [],[],_,_=>by simp [AO]
 | x::xs,u::us,hl,h=>by
   simp only [AO]
   exact⟨u,us,rfl,by simpa using h 0,L5 (by simpa using hl) (fun i=>by simpa using h (i+1))⟩
 | [],_::_,hl,_=>by simp at hl
 | _::_,[],hl,_=>by simp at hl
theorem R3 {w:World} {G:Bp}: ∀ {cs:List C} {us:List Value},AG w G cs us→AO w G (cs.map V.c) us
 | [],[],_=>by simp [AO]
 | c::cs,u::us,h=>by
   simp only [AG]at h
   simp only [List.map_cons,AO]
   exact⟨u,us,rfl,by simp only [Am];exact h.1,R3 h.2⟩
 | [],_::_,h=>by simp [AG]at h
 | _::_,[],h=>by simp [AG]at h
theorem R.enter (h:R F st a w G) (k:Nat) {args:List V} {us:Array Value} (ha:AO w G args us.toList) (n:Nat):
 R {F with gv:=a.tmps.toList++F.gv} (st.enter k args n) {tmps:=us++Array.replicate (n - us.size) Go.undef,defers:=[]} w G:=by
 have hl:=D8 ha
 have hl':args.length=us.size:=by simpa using hl
 exact {
  dfr:=rfl
  size:=by simp [St.enter,hl']
  slots:=by
   intro i
   simp only [St.enter,List.getD_eq_getElem?_getD,Array.getD_eq_getD_getElem?]
   by_cases hi:i<args.length
   ·obtain⟨v,q1,q2⟩:=JE ha i hi
    have e1:(us++Array.replicate (n - us.size) Go.undef)[i]? =some v:=by
     rw [Array.getElem?_append_left (by omega)];simpa using q1
    rw [e1,List.getElem?_append_left hi]
    simpa [List.getD_eq_getElem?_getD] using q2
   ·rw [List.getElem?_append_right (by omega),List.getElem?_replicate]
    split<;>simp [Am]
  ghosts:=GZ (L5 (by simpa using h.size.symm) (fun i=>by
   have:=h.slots i
   simpa [List.getD_eq_getElem?_getD,Array.getD_eq_getD_getElem?] using this)) h.ghosts
  store:=h.store,deep:=h.deep,pures:=h.pures,nodup:=h.nodup,inj:=h.inj,lt:=h.lt,new:=h.new,wr:=h.wr,avlt:=h.avlt,inv:=h.inv,avold:=h.avold
  os:=h.os,tape:=h.tape,output:=h.output,hsize:=h.hsize,ext:=h.ext}
theorem jx {w:World} {G:Bp} {xs:List V} {us:List Value} (h:AO w G xs us) (i:Nat):Am w G (xs.getD i .undef) (us.getD i Go.undef):=by
 by_cases hi:i<xs.length
 ·obtain⟨v,q1,q2⟩:=JE h i hi
  rw [List.getD_eq_getElem?_getD (l:=us),q1];exact q2
 ·have:xs.getD i .undef = .undef :=by simp [List.getD_eq_getElem?_getD,hi]
  rw [this];simp only [Am]
theorem R.back {a':Act} {st':St} (hd:a.defers=[]) {gv:List Value} (hgv:F.gv=a.tmps.toList++gv) (h:R F st' a' w G) {m:Nat} (hm:m=a.tmps.size) (pre:AC):R {F with gv:=gv} ⟨st'.gh.take m,st'.so,st'.gh.drop m,pre⟩ a w G:=by
 have hg:=h.ghosts
 rw [hgv]at hg
 obtain⟨h1,h2⟩:=T1 hg
 have e:a.tmps.toList.length=m:=by simp [hm]
 rw [e]at h1 h2
 exact {
  dfr:=hd
  size:=by have:=D8 h1;simp at this ⊢;omega
  slots:=fun i=>by
   have:=jx h1 i
   simpa [List.getD_eq_getElem?_getD,Array.getD_eq_getD_getElem?] using this
  ghosts:=h2
  store:=h.store,deep:=h.deep,pures:=h.pures,nodup:=h.nodup,inj:=h.inj,lt:=h.lt,new:=h.new,wr:=h.wr,avlt:=h.avlt,inv:=h.inv,avold:=h.avold
  os:=h.os,tape:=h.tape,output:=h.output,hsize:=h.hsize,ext:=h.ext}
end
def pP (P:Program) (rs:List ResultVar) (m:Nat) (pre:AC) (d:Option Nat) (K:St→Prop):Exit→St→Prop
 | .normal,st=>(Cz P st rs).1∧K (st.back m pre d (Cz P st rs).2)
 | .ret,st=>(Cz P st rs).1∧K (st.back m pre d (Cz P st rs).2)
 | _,_=>False
theorem Yp.inline {P:Program} {I:World→Prop} {o:Oper} {st:St} {K:St→Prop} {x:Operand} {xs:List Operand} {c:Call} {s:Prop} {vs:List V} {f:FuncId} {cs:List C} {fn:Func} {body:Code} {n:Nat} {rs:List ResultVar} (k:Nat)
 (ho:o.op= .call c) (hcal:c.callee= .value x) (hxs:c.args.toList=xs) (ha:st.args true xs=(s,vs)) (hs:s) (hf:PZ st x=some (f,cs)) (hent:ent P f=true) (hfn:P.funcs[f]? =some fn) (hb:fn.body=some body) (hn:fn.ntmps=n) (hr:fn.results=rs.toArray)
 (h: ∀ w0 av old gv,Aj P ⟨w0,av,old,I,gv⟩ body (st.enter k (vs++cs.map V.c) n) (pP P rs st.tm.length st.pre o.dst K)):Yp P I o st K:=by
 intro F a w G Q hI hR
 have hargs:AO w G vs (xs.map a.eval):=by
  have:=hR.args (g:=true) rfl (xs:=xs) (by rw [ha];exact hs)
  rw [ha]at this;exact this
 obtain⟨arr,hev,hcs⟩: ∃ arr:Array Value,a.eval x= .func (.func f) #[] arr∧AG w G cs arr.toList:=by
  have hx:=hR.ev x
  unfold PZ at hf
  split at hf
  ·rename_i f' he
   rw [he]at hx
   simp only [Option.some.injEq,Prod.mk.injEq]at hf
   obtain⟨rfl,rfl⟩:=hf
   simp only [Am,As]at hx
   exact⟨#[],hx,by simp [AG]⟩
  ·rename_i f' cs' he
   rw [he]at hx
   simp only [Option.some.injEq,Prod.mk.injEq]at hf
   obtain⟨rfl,rfl⟩:=hf
   simpa only [Am,As] using hx
  ·cases hf
 have hrun:(execOp a.eval o).run P w= .ok (.enter f ((xs.map a.eval).toArray ++arr)) w:=by
  have e:c.args.map a.eval=(xs.map a.eval).toArray :=by apply Array.ext';simp [←hxs]
  simp [execOp,ho,resolve,hcal,hev,Deferred.ofValue,invoke,run_callFunc' hent,e]
 unfold Oper.wp Oper.upon
 rw [hrun]
 simp only
 obtain⟨w0,av,old,I',gv⟩:=F
 simp only at hI;subst hI
 have hall:AO w G (vs++cs.map V.c) ((xs.map a.eval).toArray ++arr).toList :=by
  simpa using GZ hargs (R3 hcs)
 refine calls_of_wp hfn hb ?_
 have hR0:=hR.enter k hall fn.ntmps
 rw [hn]at hR0
 rw [hn]
 refine Code.wp_mono (fun e a' w' ⟨st',G',q,hR'⟩=>?_) (h _ _ _ _ _ _ _ hR0)
 have hrs:fn.results.toList=rs:=by rw [hr]
 have fin:(Cz P st' rs).1∧K (st'.back st.tm.length st.pre o.dst (Cz P st' rs).2)→
  a'.defers=[]∧ ∃ v,(results fn a'.tmps).run P w'= .ok v w'∧nU ⟨w0,av,old,I',gv⟩ K (a.put o.dst v) w':=by
  intro ⟨q1,q2⟩
  rw [←hrs]at q1 q2
  obtain⟨v,k1,k2⟩:=P0 hR' (fn:=fn) q1
  refine⟨hR'.dfr,v,k1,_,G',q2,?_⟩
  exact(R.back hR.dfr rfl hR' hR.size.symm st.pre).put k2
 cases e<;>simp only [pP]at q<;>first | exact fin q | exact q.elim
end Go.PL
namespace Go.PL
open Go Go.RowKit Go.ChangeShapes Go.WideShapes
theorem Ok {H:Type} {enc:TypeId×Value→H} {P:Program} (hl:laidOutB P=true) {W W':World} (hb:Below W.heap.size W W'):
 ∀ {ts:List TypeId} {vs:List Value} {ds:List (DataW H)} {ps:List MemPlace},(ts.all fun t=>P.readableRec t&&decide (t<P.types.size))=true→DataW.TrodAll enc P W 0 (fun _=>true) true ts vs ds ps→(∀ x∈ps,x.block<W.heap.size)→
   DataW.TrodAll enc P W' 0 (fun b=>decide (b<W.heap.size)) true ts vs ds ps
 | [],_,_,_,_,h,_=>by
   obtain⟨rfl,rfl,rfl⟩:=trodAll_nil h
   exact trodAll_mk0
 | t::ts,_,_,_,hr,h,hlt=>by
   obtain⟨v,vs1,d,ds1,a,b,rfl,rfl,rfl,h1,h2⟩:=trodAll_cons h
   simp only [List.all_cons,Bool.and_eq_true,decide_eq_true_eq]at hr
   exact⟨a,b,Below.trod hl hr.1.1 hr.1.2 h1 hb (fun x hx=>hlt x (by simp [hx])),Ok hl hb hr.2 h2 (fun x hx=>hlt x (by simp [hx])),rfl⟩
theorem AP.law {P:Program} {I:World→Prop} {f:FuncId} {xs:List V} (h:AP P I f xs (· = .c (.bool true))) {W:World} (hI:I W) {args:Array Value} (ha:AO W (im fun _=>False) xs args.toList):
 Calls P f args W fun e W'=>e= .returned (.bool true)∧Below W.heap.size W W':=by
 refine(h.run W args (fun _=>False) hI (fun _ h=>h.elim) ha).mono fun e W' ⟨v,r,he,hr,_,hv,hb⟩=>⟨?_,hb⟩
 subst hr
 simp only [Am,As]at hv
 rw [he,hv]
end Go.PL
namespace Go.PL
open Go Go.RowKit Go.ChangeShapes Go.WideShapes
def R4 (R:TypeId→List C→Prop):List TypeId→List (List C)→Prop
 | [],dss=>dss=[]
 | t::ts,dss=> ∃ ds r,dss=ds::r∧R t ds∧R4 R ts r
def Bh (P:Program):Nat→TypeId→List C→Prop
 | 0,_,_=>False
 | n+1,t,cs=>match P.underlying t with
   | some .bool => ∃ b,cs=[.bool b]
   | some (.int k)=> ∃ z,cs=[.int k z]∧(Lit.int k z).wf =true
   | some .string => ∃ s:List UInt8,cs=[.str s]∧s.length≤reachBytes
   | some (.slice e)=> ∃ dss:List (List C),cs=[.sl dss.length dss.flatten]∧dss.length*P.bytesOf e≤reachBytes∧ ∀ ds∈dss,Bh P n e ds
   | some (.struct fs)=> ∃ dss:List (List C),cs=dss.flatten∧R4 (Bh P n) (fs.toList.map (·.type)) dss
   | some (.array m e)=> ∃ dss:List (List C),cs=dss.flatten∧dss.length=m∧ ∀ ds∈dss,Bh P n e ds
   | some (.pointer e)=>cs=[.nilp]∨ ∃ ds,cs=[.iptr ds 0]∧Bh P n e ds
   | some (.interface _)=>cs=[.niface]∨cs=[.held]
   | _=>False
theorem FY: ∀ {dss:List (List C)},(∀ ds∈dss,AJ ds=true)→AJ dss.flatten=true
 | [],_=>rfl
 | ds::dss,h=>by rw [List.flatten_cons,BN,h ds (by simp),FY (fun d hd=>h d (by simp [hd]))];rfl
theorem ZF {R:TypeId→List C→Prop} (hR: ∀ t ds,R t ds→AJ ds=true): ∀ {ts:List TypeId} {dss:List (List C)},R4 R ts dss→ ∀ ds∈dss,AJ ds=true
 | [],dss,h,ds,hd=>by simp only [R4]at h;subst h;simp at hd
 | t::ts,dss,h,ds,hd=>by
   simp only [R4]at h
   obtain⟨d,r,rfl,h1,h2⟩:=h
   rcases List.mem_cons.1 hd with rfl | hd
   ·exact hR t _ h1
   ·exact ZF hR h2 ds hd
theorem Kr {P:Program}: ∀ {n:Nat} {t:TypeId} {cs:List C},Bh P n t cs→AJ cs=true
 | 0,_,_,h=>h.elim
 | n+1,t,cs,h=>by
   unfold Bh at h
   split at h
   ·obtain⟨b,rfl⟩:=h;rfl
   ·obtain⟨z,rfl,_⟩:=h;rfl
   ·obtain⟨s,rfl,_⟩:=h;rfl
   ·obtain⟨dss,rfl,_⟩:=h;rfl
   ·obtain⟨dss,rfl,h2⟩:=h;exact FY (ZF (fun t ds h=>Kr h) h2)
   ·obtain⟨dss,rfl,_,h2⟩:=h;exact FY (fun ds hd=>Kr (h2 ds hd))
   ·rcases h with rfl | ⟨ds,rfl,_⟩<;>rfl
   ·rcases h with rfl | rfl<;>rfl
   ·exact h.elim
section
variable {H:Type} {enc:TypeId×Value→H} {P:Program} {w:World} {spare:Nat→Bool}
theorem We {G:Bp}: ∀ {a b:List C} {u v:List Value},AG w G a u→AG w G b v→AG w G (a++b) (u++v)
 | [],_,[],_,_,h=>h
 | _::_,_,_::_,_,h,h'=>by simp only [AG]at h;simp only [List.cons_append,AG];exact⟨h.1,We h.2 h'⟩
 | [],_,_::_,_,h,_=>by simp [AG]at h
 | _::_,_,[],_,h,_=>by simp [AG]at h
theorem eU {G:Bp}: ∀ {a:List C} {u:List Value},AG w G a u→a.length=u.length
 | [],[],_=>rfl
 | _::_,_::_,h=>by simp only [AG]at h;simp [eU h.2]
 | [],_::_,h=>by simp [AG]at h
 | _::_,[],h=>by simp [AG]at h
theorem R5 {G:Bp} {b:Nat}: ∀ {cs:List C} {ds:List Value} {o:Nat},AG w G cs ds→(∀ j,j<ds.length→w.cell? ⟨b,o+j,none⟩=ds[j]?)→AE w G cs b o
 | [],_,_,_,_=>by simp [AE]
 | c::cs,d::ds,o,h,hc=>by
   simp only [AG]at h
   simp only [AE]
   refine⟨⟨d,by simpa using hc 0 (by simp),h.1⟩,R5 h.2 (fun j hj=>?_)⟩
   have:=hc (j+1) (by simp;omega)
   simpa [Nat.add_assoc,Nat.add_comm 1 j] using this
 | _::_,[],_,h,_=>by simp [AG]at h
theorem Wf {G:Bp} {b:Nat}: ∀ {cs cs':List C} {o:Nat},AE w G cs b o→AE w G cs' b (o+cs.length)→AE w G (cs++cs') b o
 | [],_,_,_,h=>by simpa using h
 | c::cs,cs',o,h,h'=>by
   simp only [AE]at h
   simp only [List.cons_append,AE]
   exact⟨h.1,Wf h.2 (by simpa [Nat.add_assoc,Nat.add_comm 1] using h')⟩
theorem eV {a:Addr} {n:Nat} {cs:List Value} (hn:0<n) (h:w.cells? 0 a n=some cs):a=⟨a.block,a.off,none⟩∧a.block<w.heap.size∧cs.length=n∧ ∀ j,j<n→w.cell? ⟨a.block,a.off+j,none⟩=cs[j]? :=by
 obtain⟨_,hl,hc⟩:=World.cells?_some h
 have h0:=hc 0 hn
 obtain⟨b,o,sp⟩:=a
 have hsp:sp=none:=by
  cases sp with
  | none=>rfl
  | some x=>
    have e:cs[0]? =some cs[0]:=by rw [List.getElem?_eq_getElem]
    rw [e]at h0
    simp only [Addr.add,if_true]at h0
    unfold World.cell? at h0
    split at h0<;>simp at h0
 subst hsp
 refine⟨rfl,World.cells?_block h hn,hl,fun j hj=>?_⟩
 have:=hc j hj
 simp only [Addr.add]at this
 split at this
 ·rename_i hj0;subst hj0;exact this
 ·exact this
def sQ (P:Program):Nat→List Field→Bool
 | _,[]=>true
 | o,f::fs=>f.offset==o&&sQ P (o+P.cellsOf f.type) fs
def sG (P:Program):Nat→TypeId→Bool
 | 0,_=>false
 | n+1,t=>match P.underlying t with
   | some .bool =>P.cellsOf t==1
   | some (.int _)=>P.cellsOf t==1
   | some .string =>P.cellsOf t==1
   | some (.slice e)=>P.cellsOf t==1&&decide (0<P.cellsOf e)&&sG P n e
   | some (.struct fs)=>sQ P 0 fs.toList&&P.cellsOf t==(fs.toList.map fun f=>P.cellsOf f.type).sum &&fs.toList.all (fun f=>sG P n f.type)
   | some (.array m e)=>P.cellsOf t==m*P.cellsOf e&&sG P n e
   | some (.pointer e)=>P.cellsOf t==1&&decide (0<P.cellsOf e)&&sG P n e
   | some (.interface _)=>P.cellsOf t==1
   | _=>false
variable {G:Bp} (hG: ∀ b,b<w.heap.size→ ¬G.wr b)
def mG (enc:TypeId×Value→H) (P:Program) (w:World) (spare:Nat→Bool) (G:Bp) (n:Nat) (t:TypeId):Prop:=
 ∀ (fuel:Nat) (vs:List Value) (x:DataW H×List MemPlace),DataW.trod enc P w 0 spare true fuel t vs=some x→(x.1.weights P t).all (· ≤reachBytes)=true→ ∃ cs,AG w G cs vs∧Bh P n t cs∧vs.length=P.cellsOf t
theorem T3 {n:Nat}: ∀ {fs:List Field} {o m:Nat} {vs:List Value} {xs:List (DataW H×List MemPlace)},sQ P o fs=true→vs.length=o+(fs.map fun f=>P.cellsOf f.type).sum →xs.length=fs.length→
 (∀ f∈fs,mG enc P w spare G n f.type)→
 (∀ (i:Nat) (f:Field),fs[i]? =some f→DataW.trod enc P w 0 spare true m f.type ((vs.drop f.offset).take (P.cellsOf f.type))=xs[i]?)→
 (DataW.weightsEach P (fs.map (·.type)) (xs.map (·.1))).all (· ≤reachBytes)=true→ ∃ dss:List (List C),AG w G dss.flatten (vs.drop o)∧R4 (Bh P n) (fs.map (·.type)) dss
 | [],o,m,vs,xs,_,hl,_,_,_,_=>by
   refine⟨[],?_,rfl⟩
   have:vs.drop o=[]:=by simp at hl;simp;omega
   rw [this];simp [AG]
 | f::fs,o,m,vs,xs,ht,hl,hx,hr,hf,hw=>by
   simp only [sQ,Bool.and_eq_true,beq_iff_eq]at ht
   obtain⟨h1,h2⟩:=ht
   cases xs with
   | nil=>simp at hx
   | cons x xs=>
     simp only [List.map_cons,List.sum_cons]at hl
     simp only [List.map_cons,DataW.weightsEach,List.all_append,Bool.and_eq_true]at hw
     have h0:=hf 0 f rfl
     simp only [List.getElem?_cons_zero]at h0
     obtain⟨cs,q1,q2,q3⟩:=hr f (by simp) m _ x h0 hw.1
     obtain⟨dss,k1,k2⟩:=T3 (o:=o+P.cellsOf f.type) (m:=m) (vs:=vs) (xs:=xs) h2 (by omega) (by simpa using hx) (fun g hg=>hr g (by simp [hg]))
      (fun i g hg=>by have:=hf (i+1) g (by simpa using hg);simpa using this) hw.2
     refine⟨cs::dss,?_,cs,dss,rfl,q2,k2⟩
     have e:vs.drop o=(vs.drop o).take (P.cellsOf f.type)++vs.drop (o+P.cellsOf f.type):=by rw [←List.drop_drop,List.take_append_drop]
     rw [e,List.flatten_cons]
     rw [h1]at q1
     exact We q1 k1
theorem Wg {n e:Nat} (hr:mG enc P w spare G n e): ∀ (k o m:Nat) (vs:List Value) (xs:List (DataW H×List MemPlace)),vs.length=o+k*P.cellsOf e→xs.length=k→
 (∀ i,i<k→DataW.trod enc P w 0 spare true m e ((vs.drop (o+i*P.cellsOf e)).take (P.cellsOf e))=xs[i]?)→
 (DataW.weightsAll P e (xs.map (·.1))).all (· ≤reachBytes)=true→ ∃ dss:List (List C),AG w G dss.flatten (vs.drop o)∧dss.length=k∧ ∀ ds∈dss,Bh P n e ds
 | 0,o,m,vs,xs,hl,_,_,_=>by
   refine⟨[],?_,rfl,by simp⟩
   have:vs.drop o=[]:=by simp;omega
   rw [this];simp [AG]
 | k+1,o,m,vs,xs,hl,hx,hf,hw=>by
   cases xs with
   | nil=>simp at hx
   | cons x xs=>
     simp only [List.map_cons,DataW.weightsAll,List.all_append,Bool.and_eq_true]at hw
     have h0:=hf 0 (by omega)
     simp only [Nat.zero_mul,Nat.add_zero,List.getElem?_cons_zero]at h0
     obtain⟨cs,q1,q2,q3⟩:=hr m _ x h0 hw.1
     obtain⟨dss,k1,k2,k3⟩:=Wg hr k (o+P.cellsOf e) m vs xs (by rw [hl,Nat.add_mul];omega) (by simpa using hx)
      (fun i hi=>by
       have:=hf (i+1) (by omega)
       simp only [List.getElem?_cons_succ]at this
       rw [←this]
       congr 3
       rw [Nat.add_mul];omega) hw.2
     refine⟨cs::dss,?_,by simp [k2],?_⟩
     ·have e':vs.drop o=(vs.drop o).take (P.cellsOf e)++vs.drop (o+P.cellsOf e):=by rw [←List.drop_drop,List.take_append_drop]
      rw [e',List.flatten_cons]
      exact We q1 k1
     ·intro ds hds
      rcases List.mem_cons.1 hds with rfl | hd
      ·exact q2
      ·exact k3 ds hd
theorem Wh {n e:Nat} (hpos:0<P.cellsOf e) (hr:mG enc P w spare G n e): ∀ (k o m:Nat) (a:Addr) (xs:List (DataW H×List MemPlace)),xs.length=k→
 (∀ i,i<k→(w.cells? 0 (a.add (o+i*P.cellsOf e)) (P.cellsOf e)).bind (DataW.trod enc P w 0 spare true m e)=xs[i]?)→
 (DataW.weightsAll P e (xs.map (·.1))).all (· ≤reachBytes)=true→
 ∃ dss:List (List C),dss.length=k∧(∀ ds∈dss,Bh P n e ds)∧(0<k→a.block<w.heap.size∧(o=0→a=⟨a.block,a.off,none⟩)∧AE w G dss.flatten a.block (a.off+o))
 | 0,o,m,a,xs,_,_,_=>⟨[],rfl,by simp,fun h=>by omega⟩
 | k+1,o,m,a,xs,hx,hf,hw=>by
   cases xs with
   | nil=>simp at hx
   | cons x xs=>
     simp only [List.map_cons,DataW.weightsAll,List.all_append,Bool.and_eq_true]at hw
     have h0:=hf 0 (by omega)
     simp only [Nat.zero_mul,Nat.add_zero,List.getElem?_cons_zero,Option.bind_eq_some_iff]at h0
     obtain⟨vs,hvs,htr⟩:=h0
     obtain⟨cs,q1,q2,q3⟩:=hr m _ x htr hw.1
     obtain⟨c1,c2,c3,c4⟩:=eV hpos hvs
     obtain⟨dss,k2,k3,k4⟩:=Wh hpos hr k (o+P.cellsOf e) m a xs (by simpa using hx)
      (fun i hi=>by
       have:=hf (i+1) (by omega)
       simp only [List.getElem?_cons_succ]at this
       rw [←this]
       congr 3
       rw [Nat.add_mul];omega) hw.2
     have hblk:(a.add o).block =a.block:=by unfold Addr.add;split<;>rfl
     have hoff:(a.add o).off =a.off+o:=by
      unfold Addr.add
      split
      ·rename_i q;rw [q];rfl
      ·rfl
     refine⟨cs::dss,by simp [k2],?_,fun _=>⟨by rw [←hblk];exact c2,fun ho=>?_,?_⟩⟩
     ·intro ds hds
      rcases List.mem_cons.1 hds with rfl | hd
      ·exact q2
      ·exact k3 ds hd
     ·subst ho
      have e:a.add 0=a:=rfl
      rw [e]at c1
      exact c1
     ·rw [List.flatten_cons]
      rw [hblk,hoff]at c4
      have hlen:cs.length=P.cellsOf e:=(eU q1).trans q3
      refine Wf (R5 q1 (fun j hj=>c4 j (by omega))) ?_
      by_cases hk:0<k
      ·have:=(k4 hk).2.2
       rw [hlen]
       simpa [Nat.add_assoc] using this
      ·have:dss=[]:=List.length_eq_zero_iff.1 (by omega)
       subst this
       simp [AE]
theorem Wi {c:C} {v:Value} (h:As w G c v):AG w G [c] [v]:=by simp only [AG];exact⟨h,trivial⟩
theorem mH {len:Nat} {cs:List C} {v:Value} (hp:AJ cs=true) (h: ∃ a cap,v= .slice a len cap∧len≤cap∧cap≤maxLen∧(len=0→cs=[])∧
 (len=0∨ ∃ b off,a=some ⟨b,off,none⟩∧ ¬G.wr b∧b<w.heap.size∧AE w G cs b off)):As w G (.sl len cs) v:=by unfold As;exact⟨hp,h⟩
theorem n9 {cs:List C} {off:Nat} {v:Value} (hp:AJ cs=true) (h: ∃ b o,v= .pointer (some ⟨b,o+off,none⟩)∧ ¬G.wr b∧b<w.heap.size∧AE w G cs b o):As w G (.iptr cs off) v:=by unfold As;exact⟨hp,h⟩
include hG in
theorem JH: ∀ (n:Nat) (t:TypeId),sG P n t=true→mG enc P w spare G n t
 | 0,t,h=>by simp [sG]at h
 | n+1,t,h=>by
   intro fuel vs x hx hw
   unfold sG at h
   unfold Bh
   split at h
   ·rename_i ht
    obtain⟨b,rfl,rfl⟩:=DataW.trod_bool ht hx
    exact⟨[.bool b],by simp [AG,As],by exact⟨b,rfl⟩,by rw [beq_iff_eq.1 h];rfl⟩
   ·rename_i k ht
    obtain⟨z,rfl,rfl,hwf⟩:=DataW.trod_int ht hx
    exact⟨[.int k z],by simp [AG,As],by exact⟨z,rfl,hwf⟩,by rw [beq_iff_eq.1 h];rfl⟩
   ·rename_i ht
    obtain⟨s,rfl,rfl,hs⟩:=DataW.trod_string ht hx
    simp only [DataW.weights,List.all_cons,List.all_nil,Bool.and_true,decide_eq_true_eq]at hw
    exact⟨[.str s.data.toList],by simp [AG,As],by exact⟨_,rfl,hw⟩,by rw [beq_iff_eq.1 h];rfl⟩
   ·rename_i e ht
    simp only [Bool.and_eq_true,decide_eq_true_eq,beq_iff_eq]at h
    rcases DataW.trod_slice ht hx with ⟨rfl,rfl⟩ | ⟨a,len,cap,elems,rest,m,rfl,rfl,rfl,_,hle,hmax,hlen,hel,_,_⟩
    ·refine⟨[.sl 0 []],?_,?_,by rw [h.1.1];rfl⟩
     ·exact Wi (mH rfl ⟨none,0,rfl,Nat.le_refl _,Nat.zero_le _,fun _=>rfl, .inl rfl⟩)
     ·exact⟨[],rfl,by simp,by simp⟩
    ·simp only [DataW.weights,ht,List.all_cons,List.all_append,Bool.and_eq_true,decide_eq_true_eq,List.length_map]at hw
     obtain⟨dss,k2,k3,k4⟩:=Wh h.1.2 (JH n e h.2) len 0 m a elems hlen (fun i hi=>by rw [Nat.zero_add];exact hel i hi) hw.2.1
     refine⟨[.sl dss.length dss.flatten],?_,?_,by rw [h.1.1];rfl⟩
     ·refine Wi (mH (FY (fun ds hd=>Kr (k3 ds hd))) ⟨some a,cap,by rw [k2],by omega,hmax,fun h0=>by rw [List.length_eq_zero_iff.1 h0];rfl,?_⟩)
      rw [k2]
      by_cases hk:0<len
      ·obtain⟨q1,q2,q3⟩:=k4 hk
       exact .inr ⟨a.block,a.off,by rw [←q2 rfl],hG _ q1,q1,q3⟩
      ·exact .inl (by omega)
     ·refine⟨dss,rfl,?_,k3⟩
      refine Nat.le_trans (Nat.mul_le_mul_right _ ?_) hw.1
      omega
   ·rename_i fs ht
    simp only [Bool.and_eq_true,beq_iff_eq,List.all_eq_true]at h
    obtain⟨⟨h1,h2⟩,h3⟩:=h
    obtain⟨xs,m,rfl,rfl,hl,hx2,hf⟩:=DataW.trod_struct ht hx
    simp only [DataW.weights,ht]at hw
    obtain⟨dss,k1,k2⟩:=T3 (fs:=fs.toList) (o:=0) (m:=m) (vs:=vs) (xs:=xs) (enc:=enc) (spare:=spare) (n:=n) h1 (by rw [hl,h2];simp) (by simpa using hx2) (fun f hf=>JH n f.type (h3 f hf))
     (fun i f hi=>hf i f (by simpa using hi)) hw
    exact⟨dss.flatten,by simpa using k1,by exact⟨dss,rfl,k2⟩,hl⟩
   ·rename_i m e ht
    simp only [Bool.and_eq_true,beq_iff_eq]at h
    obtain⟨xs,q,rfl,rfl,hl,hx2,hf⟩:=DataW.trod_array ht hx
    simp only [DataW.weights,ht]at hw
    obtain⟨dss,k1,k2,k3⟩:=Wg (JH n e h.2) m 0 q vs xs (by rw [hl,h.1];simp) hx2 (fun i hi=>by rw [Nat.zero_add];exact hf i hi) hw
    exact⟨dss.flatten,by simpa using k1,by exact⟨dss,rfl,k2,k3⟩,hl⟩
   ·rename_i e ht
    simp only [Bool.and_eq_true,decide_eq_true_eq,beq_iff_eq]at h
    rcases DataW.trod_pointer ht hx with ⟨rfl,rfl⟩ | ⟨a,cs',y,m,rfl,rfl,rfl,hc,hy⟩
    ·exact⟨[.nilp],by simp [AG,As],by exact .inl rfl,by rw [h.1.1];rfl⟩
    ·simp only [DataW.weights,ht]at hw
     obtain⟨ds,q1,q2,q3⟩:=JH n e h.2 m cs' y hy hw
     obtain⟨c1,c2,c3,c4⟩:=eV h.1.2 hc
     refine⟨[.iptr ds 0],?_,by exact .inr ⟨ds,rfl,q2⟩,by rw [h.1.1];rfl⟩
     exact Wi (n9 (Kr q2) ⟨a.block,a.off,by rw [Nat.add_zero, ←c1],hG _ c2,c2,R5 q1 (fun j hj=>c4 j (by omega))⟩)
   ·rename_i ms ht
    cases fuel with
    | zero=>simp [DataW.trod]at hx
    | succ fuel=>
      unfold DataW.trod at hx
      rw [ht]at hx
      split at hx<;>simp_all
      ·exact⟨[.niface],by simp [AG,As], .inl rfl⟩
      ·exact⟨[.held],by simp [AG,As], .inr rfl⟩
   ·cases h
end
end Go.PL
namespace Go.PL
open Go Go.RowKit
section
variable {P:Program} {t e:TypeId} {n:Nat} {cs:List C}
theorem jy (hu:P.underlying t=some .bool) (h:Bh P n t cs): ∃ b,cs=[.bool b]∧True:=by
 cases n with
 | zero=>exact h.elim
 | succ n=>simp only [Bh,hu]at h;obtain⟨b,h⟩:=h;exact⟨b,h,trivial⟩
theorem oa {k:IntKind} (hu:P.underlying t=some (.int k)) (h:Bh P n t cs): ∃ z,cs=[.int k z]∧(Lit.int k z).wf =true:=by
 cases n with
 | zero=>exact h.elim
 | succ n=>simpa only [Bh,hu] using h
theorem ob (hu:P.underlying t=some .string) (h:Bh P n t cs): ∃ s:List UInt8,cs=[.str s]∧s.length≤reachBytes:=by
 cases n with
 | zero=>exact h.elim
 | succ n=>simpa only [Bh,hu] using h
theorem Wj {α:Type} {R:List C→Prop} {enc:α→List C} {ok:α→Prop} (hd: ∀ ds,R ds→ ∃ x,ds=enc x∧ok x): ∀ {dss:List (List C)},(∀ ds∈dss,R ds)→ ∃ l:List α,dss=l.map enc∧ ∀ y∈l,ok y
 | [],_=>⟨[],rfl,by simp⟩
 | ds::dss,h=>by
   obtain⟨x,h1,h2⟩:=hd ds (h ds (by simp))
   obtain⟨l,h3,h4⟩:=Wj hd (fun d hd'=>h d (by simp [hd']): ∀ d∈dss,R d)
   refine⟨x::l,by rw [h1,h3];rfl,fun y hy=>?_⟩
   rcases List.mem_cons.1 hy with rfl | hy
   ·exact h2
   ·exact h4 y hy
theorem pQ {α:Type} {enc:α→List C} {ok:α→Prop} {b:Nat} (hu:P.underlying t=some (.slice e)) (hb:P.bytesOf e=b) (hd: ∀ n ds,Bh P n e ds→ ∃ x,ds=enc x∧ok x) (h:Bh P n t cs):
 ∃ l:List α,cs=[.sl l.length (l.flatMap enc)]∧l.length*b≤reachBytes∧ ∀ y∈l,ok y:=by
 cases n with
 | zero=>exact h.elim
 | succ n=>
   simp only [Bh,hu]at h
   obtain⟨dss,h1,h2,h3⟩:=h
   obtain⟨l,rfl,h5⟩:=Wj (hd n) h3
   rw [hb,List.length_map]at h2
   exact⟨l,by rw [h1,List.length_map,List.flatMap_def],h2,h5⟩
theorem eW {α:Type} (f:α→C): ∀ l:List α,l.flatMap (fun x=>[f x])=l.map f
 | []=>rfl
 | a::l=>by rw [List.flatMap_cons,eW f l];rfl
theorem A7 {fs:Array Field} {ts:List TypeId} (hu:P.underlying t=some (.struct fs)) (hts:fs.toList.map (·.type)=ts) (h:Bh P n t cs): ∃ (m:Nat) (dss:List (List C)),cs=dss.flatten∧R4 (Bh P m) ts dss:=by
 cases n with
 | zero=>exact h.elim
 | succ n=>simp only [Bh,hu,hts]at h;exact⟨n,h⟩
theorem ZG {α:Type} {enc:α→List C} {n:Nat} (hn: ∀ x,(enc x).length =n) (l:List α) {i:Nat} (d:α) (hi:i<l.length) (j m:Nat) (hj:j+m≤n):
 ((l.flatMap enc).drop (i*n+j)).take m=((enc (l.getD i d)).drop j).take m:=by
 induction l generalizing i with
 | nil=>simp at hi
 | cons a l ih=>
   cases i with
   | zero=>
     simp only [List.flatMap_cons,Nat.zero_mul,Nat.zero_add,List.getD_cons_zero]
     rw [List.drop_append_of_le_length (by rw [hn];omega),List.take_append_of_le_length (by rw [List.length_drop,hn];omega)]
   | succ i=>
     have:=ih (i:=i) (by simpa using hi)
     rw [List.getD_cons_succ, ←this,List.flatMap_cons]
     have e:(i+1)*n+j=(enc a).length +(i*n+j):=by rw [hn,Nat.add_mul];omega
     rw [e,List.drop_append,List.drop_of_length_le (by omega)]
     simp
theorem pR {α:Type} {enc:α→List C} {n:Nat} (hn: ∀ x,(enc x).length =n) (l:List α) {i:Nat} (d:α) (hi:i<l.length) (j:Nat) (hj:j<n):
 (l.flatMap enc).getD (i*n+j) C.any=(enc (l.getD i d)).getD j C.any:=by
 have h:=ZG hn l d hi j 1 (by omega)
 have e: ∀ (m:List C) (k:Nat),m.getD k C.any=((m.drop k).take 1).getD 0 C.any:=by
  intro m k
  simp [List.getD_eq_getElem?_getD,List.getElem?_take,List.getElem?_drop]
 rw [e,h, ←e]
theorem Cb {α:Type} {enc:α→List C} {n:Nat} (hn: ∀ x,(enc x).length =n): ∀ l:List α,(l.flatMap enc).length =l.length*n
 | []=>by simp
 | a::l=>by rw [List.flatMap_cons,List.length_append,hn,Cb hn l,List.length_cons,Nat.add_mul];omega
end
end Go.PL
namespace Go.PL
open Go Go.RowKit
def Bb:List Prop→Prop
 | []=>True
 | p::ps=>p∧Bb ps
theorem Ak: ∀ {a b:List Prop},Bb (a++b)↔Bb a∧Bb b
 | [],b=>by simp [Bb]
 | p::a,b=>by simp only [List.cons_append,Bb,Ak (a:=a) (b:=b),and_assoc]
abbrev CV:=Option (List Prop×V)
def VB {α:Type} (b:Bool) (r:α):Option α:=match b with
 | true=>some r
 | false=>none
theorem BI {α:Type} {b:Bool} {r x:α} (h:VB b r=some x):b=true∧r=x:=by
 cases b<;>simp [VB]at h;exact⟨rfl,h⟩
def Bc (st:St) (g:Bool) (x:Operand):List Prop×V:=
 match st.ev x with
 | .g c v=>([g=true→c=true],v)
 | v=>([],v)
theorem Nz {st:St} {g:Bool} {x:Operand} (hl:Bb (Bc st g x).1):(st.arg g x).1∧(st.arg g x).2=(Bc st g x).2:=by
 unfold Bc at *
 unfold St.arg
 generalize st.ev x=e at *
 cases e with
 | g c v=>exact⟨hl.1,rfl⟩
 | c _=>exact⟨trivial,rfl⟩
 | agg _=>exact⟨trivial,rfl⟩
 | tup _=>exact⟨trivial,rfl⟩
 | undef=>exact⟨trivial,rfl⟩
def Gh (st:St) (g:Bool):List Operand→List Prop×List V
 | []=>([],[])
 | x::xs=>((Bc st g x).1++(Gh st g xs).1,(Bc st g x).2::(Gh st g xs).2)
theorem P1 {st:St} {g:Bool}: ∀ {xs:List Operand},Bb (Gh st g xs).1→(st.args g xs).1∧(st.args g xs).2=(Gh st g xs).2
 | [],_=>⟨trivial,rfl⟩
 | x::xs,hl=>by
   obtain⟨h1,h2⟩:=Ak.1 hl
   have a:=Nz (st:=st) (g:=g) (x:=x) h1
   have b:=P1 (st:=st) (g:=g) (xs:=xs) h2
   simp only [St.args,Gh]
   exact⟨⟨a.1,b.1⟩,by rw [a.2,b.2]⟩
def bT:V→Option (Option Bool×Bool)
 | .c (.bool q)=>some (none,q)
 | .g c (.c (.bool q))=>some (some c,q)
 | _=>none
def pS (p:Prop):Option Bool→List Prop
 | none=>[]
 | some c=>[p→c=true]
theorem T4 {v:V} {c:Option Bool} {q:Bool} (h:bT v=some (c,q)):OU v=some (c.getD true,q):=by
 unfold bT at h
 split at h<;>simp at h
 ·obtain⟨rfl,rfl⟩:=h;rfl
 ·obtain⟨rfl,rfl⟩:=h;rfl
theorem Wl {p:Prop} {c:Option Bool} (h:Bb (pS p c)):p→c.getD true=true:=by
 cases c with
 | none=>intro _;rfl
 | some c=>exact h.1
def uA (l:List Prop) (p:Bool) (a b:V):CV:=
 match bT a,bT b with
 | some (ca,q),some (cb,r)=>some (l++(pS (p=true) ca++pS (p=false) cb), .c (.bool (if p then q else r)))
 | _,_=>none
def mI (P:Program) (t:TypeId) (st:St) (l:List Prop):V→CV
 | .c (.ptr id off)=>match Oe P t,st.lookR id with
   | some (ag,n),some e=>VB (Nat.ble (off+n) e.cs.length&&(ag||Nat.blt 0 n)) (l,toV ag off n e.cs)
   | _,_=>none
 | .c (.iptr cs off)=>match Oe P t with
   | some (ag,n)=>VB (Nat.ble (off+n) cs.length&&(ag||Nat.blt 0 n)) (l,toV ag off n cs)
   | _=>none
 | _=>none
theorem T5 {P:Program} {t:TypeId} {st:St} {l l':List Prop} {x v:V} (h:mI P t st l x=some (l',v)):l=l'∧(Eo P t st x).1∧(Eo P t st x).2=v:=by
 unfold mI at h
 unfold Eo
 split at h
 ·split at h
  ·rename_i ag n e h1 h2
   obtain⟨hb,hr⟩:=BI h
   simp only [Prod.mk.injEq]at hr
   simp only [Bool.and_eq_true,Nat.ble_eq,Bool.or_eq_true,Nat.blt_eq]at hb
   simp only [h1,h2]
   exact⟨hr.1,hb,hr.2⟩
  ·cases h
 ·split at h
  ·rename_i ag n h1
   obtain⟨hb,hr⟩:=BI h
   simp only [Prod.mk.injEq]at hr
   simp only [Bool.and_eq_true,Nat.ble_eq,Bool.or_eq_true,Nat.blt_eq]at hb
   simp only [h1]
   exact⟨hr.1,hb,hr.2⟩
  ·cases h
 ·cases h
def pT (P:Program) (t:TypeId) (st:St) (l:List Prop) (u:V):V→CV
 | .c (.ptr id off)=>match Oe P t,st.lookR id with
   | some (ag,n),some e=>VB (ag||Nat.blt 0 n) (l++[off+n≤e.cs.length∧toV ag off n e.cs=u],u)
   | _,_=>none
 | .c (.iptr cs off)=>match Oe P t with
   | some (ag,n)=>VB (ag||Nat.blt 0 n) (l++[off+n≤cs.length∧toV ag off n cs=u],u)
   | _=>none
 | _=>none
theorem eX {P:Program} {t:TypeId} {st:St} {l l':List Prop} {x u v:V} (h:pT P t st l u x=some (l',v)) (hl:Bb l'):Bb l∧(Eo P t st x).1∧(Eo P t st x).2=v:=by
 unfold pT at h
 unfold Eo
 split at h
 ·split at h
  ·rename_i ag n e h1 h2
   obtain⟨hb,hr⟩:=BI h
   simp only [Prod.mk.injEq]at hr
   obtain⟨rfl,rfl⟩:=hr
   obtain⟨q1,q2,_⟩:=Ak.1 hl
   simp only [Bool.or_eq_true,Nat.blt_eq]at hb
   simp only [h1,h2]
   exact⟨q1,⟨q2.1,hb⟩,q2.2⟩
  ·cases h
 ·split at h
  ·rename_i ag n h1
   obtain⟨hb,hr⟩:=BI h
   simp only [Prod.mk.injEq]at hr
   obtain⟨rfl,rfl⟩:=hr
   obtain⟨q1,q2,_⟩:=Ak.1 hl
   simp only [Bool.or_eq_true,Nat.blt_eq]at hb
   simp only [h1]
   exact⟨q1,⟨q2.1,hb⟩,q2.2⟩
  ·cases h
 ·cases h
def yi:BinOp→IntKind→IntKind→Bool
 | .shl,_,_ | .shr,_,_=>true
 | _,k,k'=>k==k'
theorem eY {op:BinOp} {k k':IntKind} (h:yi op k k'=true):JD op k k':=by
 unfold yi at h
 unfold JD
 cases op<;>simp_all
def vk (op:BinOp) (b:Int):List Prop:=
 match op with
 | .quo | .rem =>[b ≠ 0]
 | .shl | .shr =>[0≤b]
 | _=>[]
theorem oc {op:BinOp} {k:IntKind} {a b:Int} (h:Bb (vk op b)):(Iy op k a b).1:=by
 cases op<;>simp_all [vk,Iy,Bb]
def vl (op:BinOp) (a b:List UInt8):Option (List Prop):=
 match op with
 | .add =>some [a.length+b.length≤maxLen]
 | .eql | .neq | .lss | .leq | .gtr | .geq =>some []
 | _=>none
theorem od {op:BinOp} {a b:List UInt8} {l:List Prop} (h:vl op a b=some l) (hl:Bb l):(JC op a b).1:=by
 cases op<;>simp_all [vl,JC]<;>(subst h;exact hl.1)
def vm (P:Program) (op:BinOp) (t:TypeId) (kc:Bool) (l:List Prop):V→V→CV
 | .c (.int k a), .c (.int k' b)=>VB (yi op k k') (l++vk op b, .c (Iy op k a b).2)
 | .c (.str a), .c (.str b)=>match vl op a b with
   | some c=>some (l++c, .c (JC op a b).2)
   | none=>none
 | .agg cs, .agg ds=>match op with
   | .eql =>VB (js P t cs ds) (l, .c (.bool (BK cs ds)))
   | .neq =>VB (js P t cs ds) (l, .c (.bool !(BK cs ds)))
   | _=>none
 | x,y=>some (l++[(UV P op t kc x y).1],(UV P op t kc x y).2)
def Ks (P:Program) (op:BinOp) (t:TypeId) (k:Bool) (x y:V):Prop×V:=
 match x,y with
 | .agg cs, .agg ds=>eN P op t cs ds
 | x,y=>UV P op t k x y
theorem jz {P:Program} {op:BinOp} {t:TypeId} {kc:Bool} {l l':List Prop} {x y v:V} (h:vm P op t kc l x y=some (l',v)) (hl:Bb l'):Bb l∧(Ks P op t kc x y).1∧(Ks P op t kc x y).2=v:=by
 unfold vm at h
 split at h
 ·obtain⟨hb,hr⟩:=BI h
  simp only [Prod.mk.injEq]at hr
  obtain⟨rfl,rfl⟩:=hr
  obtain⟨q1,q2⟩:=Ak.1 hl
  exact⟨q1,⟨eY hb,oc q2⟩,rfl⟩
 ·split at h
  ·rename_i c hc
   simp only [Option.some.injEq,Prod.mk.injEq]at h
   obtain⟨rfl,rfl⟩:=h
   obtain⟨q1,q2⟩:=Ak.1 hl
   exact⟨q1,od hc q2,rfl⟩
  ·cases h
 ·split at h
  ·obtain⟨hb,hr⟩:=BI h
   simp only [Prod.mk.injEq]at hr
   exact⟨hr.1▸hl,hb,hr.2⟩
  ·obtain⟨hb,hr⟩:=BI h
   simp only [Prod.mk.injEq]at hr
   exact⟨hr.1▸hl,hb,hr.2⟩
  ·cases h
 ·rename_i hne
  simp only [Option.some.injEq,Prod.mk.injEq]at h
  obtain⟨rfl,rfl⟩:=h
  obtain⟨q1,q2⟩:=Ak.1 hl
  have e:Ks P op t kc x y=UV P op t kc x y:=by
   unfold Ks
   split<;>first | rfl | simp_all
  rw [e]
  exact⟨q1,q2.1,rfl⟩
def vn (P:Program) (t:TypeId) (st:St) (l:List Prop) (x y:V):CV:=
 match y with
 | .c (.int _ i)=>match x with
   | .c (.sl len cs)=>match Em P t with
     | some (_,n)=>some (l++[0≤i∧i<len], .c (.iptr cs (i.toNat*n)))
     | none=>none
   | .c (.osl id)=>match Em P t,st.lookR id with
     | some (_,n),some e=>match e.row with
       | some (_,_,len)=>some (l++[0≤i∧i<len], .c (.ptr id (i.toNat*n)))
       | none=>none
     | _,_=>none
   | .c (.bsl id off len)=>match Em P t with
     | some (_,n)=>some (l++[0≤i∧i<len], .c (.ptr id (off+i.toNat*n)))
     | none=>none
   | .c (.ptr id off)=>match F9 P t with
     | some (k,_,n)=>some (l++[0≤i∧i<k], .c (.ptr id (off+i.toNat*n)))
     | none=>none
   | .c (.iptr cs off)=>match F9 P t with
     | some (k,_,n)=>some (l++[0≤i∧i<k], .c (.iptr cs (off+i.toNat*n)))
     | none=>none
   | _=>none
 | _=>none
theorem jA {P:Program} {t:TypeId} {st:St} {l l':List Prop} {x y v:V} (h:vn P t st l x y=some (l',v)) (hl:Bb l'):Bb l∧(B6 P t st x y).1∧(B6 P t st x y).2=v:=by
 unfold vn at h
 unfold B6
 split at h
 ·split at h
  ·split at h
   ·rename_i h1
    simp only [Option.some.injEq,Prod.mk.injEq]at h
    obtain⟨rfl,rfl⟩:=h
    obtain⟨q1,q2,_⟩:=Ak.1 hl
    simp only [h1];exact⟨q1,q2,trivial⟩
   ·cases h
  ·split at h
   ·rename_i h1 h2
    split at h
    ·rename_i h3
     simp only [Option.some.injEq,Prod.mk.injEq]at h
     obtain⟨rfl,rfl⟩:=h
     obtain⟨q1,q2,_⟩:=Ak.1 hl
     simp only [h1,h2,h3];exact⟨q1,q2,trivial⟩
    ·cases h
   ·cases h
  ·split at h
   ·rename_i h1
    simp only [Option.some.injEq,Prod.mk.injEq]at h
    obtain⟨rfl,rfl⟩:=h
    obtain⟨q1,q2,_⟩:=Ak.1 hl
    simp only [h1];exact⟨q1,q2,trivial⟩
   ·cases h
  ·split at h
   ·rename_i h1
    simp only [Option.some.injEq,Prod.mk.injEq]at h
    obtain⟨rfl,rfl⟩:=h
    obtain⟨q1,q2,_⟩:=Ak.1 hl
    simp only [h1];exact⟨q1,q2,trivial⟩
   ·cases h
  ·split at h
   ·rename_i h1
    simp only [Option.some.injEq,Prod.mk.injEq]at h
    obtain⟨rfl,rfl⟩:=h
    obtain⟨q1,q2,_⟩:=Ak.1 hl
    simp only [h1];exact⟨q1,q2,trivial⟩
   ·cases h
  ·cases h
 ·cases h
def vp (P:Program) (t:TypeId) (l:List Prop) (x:V) (lo hi:Option V):CV:=
 match x with
 | .c (.str s)=>match Ys s.length lo hi with
   | some (a,h)=>VB (EJ P t) (l++[0≤a∧a≤h∧h≤s.length], .c (.str ((s.drop a.toNat).take (h.toNat - a.toNat))))
   | none=>none
 | .c (.sl len cs)=>match Em P t,Ys len lo hi with
   | some (_,n),some (a,h)=>some (l++[0≤a∧a≤h∧h≤len,cs.length=len*n], .c (.sl (h.toNat - a.toNat) ((cs.drop (a.toNat*n)).take ((h.toNat - a.toNat)*n))))
   | _,_=>none
 | .c (.ptr id off)=>match F9 P t with
   | some (k,_,n)=>match Ys k lo hi with
     | some (a,h)=>some (l++[0≤a∧a<k∧a≤h∧h≤k], .c (.bsl id (off+a.toNat*n) (h.toNat - a.toNat)))
     | none=>none
   | none=>none
 | _=>none
theorem jB {P:Program} {t:TypeId} {l l':List Prop} {x v:V} {lo hi:Option V} (h:vp P t l x lo hi=some (l',v)) (hl:Bb l'):Bb l∧(FA P t x lo hi).1∧(FA P t x lo hi).2=v:=by
 unfold vp at h
 unfold FA
 split at h
 ·split at h
  ·rename_i a hh h1
   obtain⟨hb,hr⟩:=BI h
   simp only [Prod.mk.injEq]at hr
   obtain⟨rfl,rfl⟩:=hr
   obtain⟨q1,q2,_⟩:=Ak.1 hl
   simp only [h1];exact⟨q1,⟨hb,q2⟩,trivial⟩
  ·cases h
 ·split at h
  ·rename_i h1 h2
   simp only [Option.some.injEq,Prod.mk.injEq]at h
   obtain⟨rfl,rfl⟩:=h
   obtain⟨q1,q2,q3,_⟩:=Ak.1 hl
   simp only [h1,h2];exact⟨q1,⟨q2.1,q2.2.1,q2.2.2,q3⟩,trivial⟩
  ·cases h
 ·split at h
  ·rename_i h1
   split at h
   ·rename_i h2
    simp only [Option.some.injEq,Prod.mk.injEq]at h
    obtain⟨rfl,rfl⟩:=h
    obtain⟨q1,q2,_⟩:=Ak.1 hl
    simp only [h1,h2];exact⟨q1,q2,trivial⟩
   ·cases h
  ·cases h
 ·cases h
def bU (st:St) (g:Bool):Option Operand→List Prop×Option V
 | none=>([],none)
 | some x=>((Bc st g x).1,some (Bc st g x).2)
theorem sR {st:St} {g:Bool}: ∀ {x:Option Operand},Bb (bU st g x).1→(Cy st g x).1∧(Cy st g x).2=(bU st g x).2
 | none,_=>⟨trivial,rfl⟩
 | some x,hl=>by
   have:=Nz (st:=st) (g:=g) (x:=x) hl
   exact⟨this.1,by simp only [Cy,bU,this.2]⟩
def vt (P:Program) (s:TypeId) (f:Nat) (l:List Prop):V→CV
 | .c (.ptr id off)=>match pJ P s f with
   | some (o,_,n)=>VB (Nat.blt 0 n) (l, .c (.ptr id (off+o)))
   | none=>none
 | .c (.iptr cs off)=>match pJ P s f with
   | some (o,_,n)=>VB (Nat.blt 0 n) (l, .c (.iptr cs (off+o)))
   | none=>none
 | _=>none
theorem jC {P:Program} {s:TypeId} {f:Nat} {l l':List Prop} {x v:V} (h:vt P s f l x=some (l',v)):l=l'∧(BW P s f x).1∧(BW P s f x).2=v:=by
 unfold vt at h
 unfold BW
 split at h
 ·split at h
  ·rename_i h1
   obtain⟨hb,hr⟩:=BI h
   simp only [Prod.mk.injEq]at hr
   simp only [h1];exact⟨hr.1,by simpa using hb,hr.2⟩
  ·cases h
 ·split at h
  ·rename_i h1
   obtain⟨hb,hr⟩:=BI h
   simp only [Prod.mk.injEq]at hr
   simp only [h1];exact⟨hr.1,by simpa using hb,hr.2⟩
  ·cases h
 ·cases h
def jD (P:Program) (t:TypeId) (f:Nat) (l:List Prop):V→CV
 | .agg cs=>match pJ P t f with
   | some (o,ag,n)=>VB (Nat.ble (o+n) cs.length&&(ag||Nat.blt 0 n)) (l,toV ag o n cs)
   | none=>none
 | _=>none
theorem bV {P:Program} {s:TypeId} {f:Nat} {l l':List Prop} {x v:V} (h:jD P s f l x=some (l',v)):l=l'∧(Hw P s f x).1∧(Hw P s f x).2=v:=by
 unfold jD at h
 unfold Hw
 split at h
 ·split at h
  ·rename_i h1
   obtain⟨hb,hr⟩:=BI h
   simp only [Prod.mk.injEq]at hr
   simp only [Bool.and_eq_true,Nat.ble_eq,Bool.or_eq_true,Nat.blt_eq]at hb
   simp only [h1];exact⟨hr.1,hb,hr.2⟩
  ·cases h
 ·cases h
def pU (P:Program) (t:TypeId) (l:List Prop) (x y:V) (u:Option V):CV:=
 match y with
 | .c (.int _ i)=>match x with
   | .c (.str s)=>VB (EJ P t) (l++[0≤i∧i<s.length], .c (.int .u8 (s.getD i.toNat 0).toNat))
   | .agg cs=>match F9 P t with
     | some (k,e,n)=>match Oe P e,u with
       | some (ag,_),some u=>VB (Nat.blt 0 n) (l++[(0≤i∧i<k)∧i.toNat*n+n≤cs.length∧toV ag (i.toNat*n) n cs=u],u)
       | _,_=>none
     | none=>none
   | _=>none
 | _=>none
theorem eZ {P:Program} {t:TypeId} {l l':List Prop} {x y v:V} {u:Option V} (h:pU P t l x y u=some (l',v)) (hl:Bb l'):Bb l∧(GG P t x y).1∧(GG P t x y).2=v:=by
 unfold pU at h
 unfold GG
 split at h
 ·split at h
  ·obtain⟨hb,hr⟩:=BI h
   simp only [Prod.mk.injEq]at hr
   obtain⟨rfl,rfl⟩:=hr
   obtain⟨q1,q2,_⟩:=Ak.1 hl
   exact⟨q1,⟨hb,q2⟩,rfl⟩
  ·split at h
   ·rename_i h1
    split at h
    ·rename_i h2
     obtain⟨hb,hr⟩:=BI h
     simp only [Prod.mk.injEq]at hr
     obtain⟨rfl,rfl⟩:=hr
     obtain⟨q1,q2,_⟩:=Ak.1 hl
     simp only [h1,h2]
     exact⟨q1,⟨q2.1.1,q2.1.2,q2.2.1,by simpa using hb⟩,q2.2.2⟩
    ·cases h
   ·cases h
  ·cases h
 ·cases h
def yw (op:UnOp) (l:List Prop):V→CV
 | .c (.int k n)=>match op with
   | .neg =>some (l, .c (.int k (k.wrap (0 - n))))
   | .xor =>some (l, .c (.int k (jf k (if k.signed then -1 else k.max) n)))
   | _=>none
 | .c (.bool b)=>match op with
   | .not =>some (l, .c (.bool !b))
   | _=>none
 | _=>none
theorem oe {op:UnOp} {l l':List Prop} {x v:V} (h:yw op l x=some (l',v)):l=l'∧(sF op x).1∧(sF op x).2=v:=by
 unfold yw at h
 unfold sF
 split at h<;>(try split at h)<;>simp_all
def pV (P:Program) (src dst:TypeId) (st:St) (l:List Prop):V→CV
 | .c (.int _ n)=>match ep P dst with
   | some k=>VB (sL P src) (l, .c (.int k (k.wrap n)))
   | none=>none
 | .c (.str s)=>VB (EJ P src&&EJ P dst) (l, .c (.str s))
 | x=>some (l++[(IC P src dst st x).1],(IC P src dst st x).2)
theorem fa {P:Program} {src dst:TypeId} {st:St} {l l':List Prop} {x v:V} (h:pV P src dst st l x=some (l',v)) (hl:Bb l'):Bb l∧(IC P src dst st x).1∧(IC P src dst st x).2=v:=by
 unfold pV at h
 split at h
 ·unfold IC
  split at h
  ·rename_i h1
   obtain⟨hb,hr⟩:=BI h
   simp only [Prod.mk.injEq]at hr
   simp only [h1];exact⟨hr.1▸hl,hb,hr.2⟩
  ·cases h
 ·unfold IC
  obtain⟨hb,hr⟩:=BI h
  simp only [Prod.mk.injEq]at hr
  exact⟨hr.1▸hl,by simpa using hb,hr.2⟩
 ·simp only [Option.some.injEq,Prod.mk.injEq]at h
  obtain⟨rfl,rfl⟩:=h
  obtain⟨q1,q2,_⟩:=Ak.1 hl
  exact⟨q1,q2,rfl⟩
def vu (P:Program) (t:TypeId) (st:St) (l:List Prop):V→CV
 | .c (.str s)=>VB (EJ P t) (l, .c (.int .i64 s.length))
 | .c (.sl len _)=>VB (FW P t) (l, .c (.int .i64 len))
 | .c (.osl id)=>match st.lookR id with
   | some e=>match e.row with
     | some (_,_,len)=>VB (FW P t) (l, .c (.int .i64 len))
     | none=>none
   | none=>none
 | x=>some (l++[(OS P t st x).1],(OS P t st x).2)
theorem jE {P:Program} {t:TypeId} {st:St} {l l':List Prop} {x v:V} (h:vu P t st l x=some (l',v)) (hl:Bb l'):Bb l∧(OS P t st x).1∧(OS P t st x).2=v:=by
 unfold vu at h
 split at h
 ·obtain⟨hb,hr⟩:=BI h
  simp only [Prod.mk.injEq]at hr
  exact⟨hr.1▸hl,hb,hr.2⟩
 ·obtain⟨hb,hr⟩:=BI h
  simp only [Prod.mk.injEq]at hr
  exact⟨hr.1▸hl,hb,hr.2⟩
 ·unfold OS
  split at h
  ·rename_i h1
   split at h
   ·rename_i h2
    obtain⟨hb,hr⟩:=BI h
    simp only [Prod.mk.injEq]at hr
    simp only [h1,h2]
    exact⟨hr.1▸hl,hb,hr.2⟩
   ·cases h
  ·cases h
 ·simp only [Option.some.injEq,Prod.mk.injEq]at h
  obtain⟨rfl,rfl⟩:=h
  obtain⟨q1,q2,_⟩:=Ak.1 hl
  exact⟨q1,q2,rfl⟩
def sS (P:Program) (st:St) (g:Bool) (op:Op):Option V→CV
 | none=>some ([(El P st g op).1],(El P st g op).2)
 | some u=>some ([(El P st g op).1∧(El P st g op).2=u],u)
theorem O0 {P:Program} {st:St} {g:Bool} {u:Option V} {op:Op} {l:List Prop} {v:V} (h:sS P st g op u=some (l,v)) (hl:Bb l):(El P st g op).1∧(El P st g op).2=v:=by
 cases u<;>simp only [sS,Option.some.injEq,Prod.mk.injEq]at h<;>obtain⟨rfl,rfl⟩:=h
 ·exact⟨hl.1,rfl⟩
 ·exact hl.1
def yj (P:Program) (st:St) (g:Bool) (u:Option V):Op→CV
 | .move x=>some (Bc st g x)
 | .assign x=>some (Bc st g x)
 | .pick c a b=>match (Bc st g c).2 with
   | .c (.bool p)=>uA (Bc st g c).1 p (st.ev a) (st.ev b)
   | _=>none
 | .load t x=>match u with
   | none=>mI P t st (Bc st g x).1 (Bc st g x).2
   | some u=>pT P t st (Bc st g x).1 u (Bc st g x).2
 | .binOp op t x y _=>vm P op t (BQ x||BQ y) ((Bc st g x).1++(Bc st g y).1) (Bc st g x).2 (Bc st g y).2
 | .unOp op _ x=>yw op (Bc st g x).1 (Bc st g x).2
 | .convert src dst x=>pV P src dst st (Bc st g x).1 (Bc st g x).2
 | .slice t x lo hi none=>vp P t ((Bc st g x).1++((bU st g lo).1++(bU st g hi).1)) (Bc st g x).2 (bU st g lo).2 (bU st g hi).2
 | .fieldAddr s x f=>vt P s f (Bc st g x).1 (Bc st g x).2
 | .field t x f=>jD P t f (Bc st g x).1 (Bc st g x).2
 | .indexAddr t x i=>vn P t st ((Bc st g x).1++(Bc st g i).1) (Bc st g x).2 (Bc st g i).2
 | .index t x i=>pU P t ((Bc st g x).1++(Bc st g i).1) (Bc st g x).2 (Bc st g i).2 u
 | .call c=>match c.callee,c.args.toList,c.argTypes.toList with
   | .builtin .len,[x],[t]=>vu P t st (Bc st g x).1 (Bc st g x).2
   | _,_,_=>sS P st g (.call c) none
 | op=>sS P st g op u
theorem ZH {P:Program} {st:St} {g:Bool} {u:Option V} {op:Op} {l:List Prop} {v:V} (h:yj P st g u op=some (l,v)) (hl:Bb l):(El P st g op).1∧(El P st g op).2=v:=by
 have A: ∀ x,Bb (Bc st g x).1→(st.arg g x).1∧(st.arg g x).2=(Bc st g x).2:=fun x hx=>Nz hx
 have O: ∀ x,Bb (bU st g x).1→(Cy st g x).1∧(Cy st g x).2=(bU st g x).2:=fun x hx=>sR hx
 cases op<;>simp only [yj]at h<;>try exact O0 h hl
 case move x=>
  simp only [Option.some.injEq]at h
  have:=A x (by rw [h];exact hl)
  rw [h]at this
  simpa only [El,rd] using this
 case assign x=>
  simp only [Option.some.injEq]at h
  have:=A x (by rw [h];exact hl)
  rw [h]at this
  simpa only [El,rd] using this
 case pick c a b=>
  split at h
  ·rename_i p hp
   unfold uA at h
   split at h
   ·rename_i ca q cb r h1 h2
    simp only [Option.some.injEq,Prod.mk.injEq]at h
    obtain⟨rfl,rfl⟩:=h
    obtain⟨q1,q2⟩:=Ak.1 hl
    obtain⟨q2,q3⟩:=Ak.1 q2
    obtain⟨k1,k2⟩:=A c q1
    rw [hp]at k2
    simp only [El,rd,bnd,k2,VW,T4 h1,T4 h2]
    exact⟨⟨k1,Wl q2,Wl q3⟩,trivial⟩
   ·cases h
  ·cases h
 case load t x=>
  split at h
  ·have:=T5 h
   obtain⟨k1,k2⟩:=A x (this.1▸hl)
   simp only [El,rd,bnd,k2]
   exact⟨⟨k1,this.2.1⟩,this.2.2⟩
  ·have:=eX h hl
   obtain⟨k1,k2⟩:=A x this.1
   simp only [El,rd,bnd,k2]
   exact⟨⟨k1,this.2.1⟩,this.2.2⟩
 case binOp op t x y ty=>
  have:=jz h hl
  obtain⟨q1,q2⟩:=Ak.1 this.1
  obtain⟨k1,k2⟩:=A x q1
  obtain⟨k3,k4⟩:=A y q2
  have e:El P st g (.binOp op t x y ty)=((st.arg g x).1∧(st.arg g y).1∧(Ks P op t (BQ x||BQ y) (st.arg g x).2 (st.arg g y).2).1,(Ks P op t (BQ x||BQ y) (st.arg g x).2 (st.arg g y).2).2):=by
   simp only [El]
   unfold Ks
   split
   ·rename_i cs ds e1 e2;simp only [e1,e2]
   ·rename_i hne
    split
    ·rename_i cs ds e1 e2;exact(hne cs ds e1 e2).elim
    ·rfl
  rw [e,k2,k4]
  exact⟨⟨k1,k3,this.2.1⟩,this.2.2⟩
 case unOp op t x=>
  have:=oe h
  obtain⟨k1,k2⟩:=A x (this.1▸hl)
  simp only [El,rd,bnd,k2]
  exact⟨⟨k1,this.2.1⟩,this.2.2⟩
 case convert s d x=>
  have:=fa h hl
  obtain⟨k1,k2⟩:=A x this.1
  simp only [El,rd,bnd,k2]
  exact⟨⟨k1,this.2.1⟩,this.2.2⟩
 case slice t x lo hi mx=>
  cases mx with
  | some m=>exact O0 h hl
  | none=>
    have:=jB h hl
    obtain⟨q1,q2⟩:=Ak.1 this.1
    obtain⟨q2,q3⟩:=Ak.1 q2
    obtain⟨k1,k2⟩:=A x q1
    obtain⟨k3,k4⟩:=O lo q2
    obtain⟨k5,k6⟩:=O hi q3
    simp only [El,rd,bnd,k2,k4,k6]
    exact⟨⟨k1,k3,k5,this.2.1⟩,this.2.2⟩
 case fieldAddr s x f=>
  have:=jC h
  obtain⟨k1,k2⟩:=A x (this.1▸hl)
  simp only [El,rd,bnd,k2]
  exact⟨⟨k1,this.2.1⟩,this.2.2⟩
 case field s x f=>
  have:=bV h
  obtain⟨k1,k2⟩:=A x (this.1▸hl)
  simp only [El,rd,bnd,k2]
  exact⟨⟨k1,this.2.1⟩,this.2.2⟩
 case indexAddr t x y=>
  have:=jA h hl
  obtain⟨q1,q2⟩:=Ak.1 this.1
  obtain⟨k1,k2⟩:=A x q1
  obtain⟨k3,k4⟩:=A y q2
  simp only [El,rd,bnd,k2,k4]
  exact⟨⟨k1,k3,this.2.1⟩,this.2.2⟩
 case index t x y=>
  have:=eZ h hl
  obtain⟨q1,q2⟩:=Ak.1 this.1
  obtain⟨k1,k2⟩:=A x q1
  obtain⟨k3,k4⟩:=A y q2
  simp only [El,rd,bnd,k2,k4]
  exact⟨⟨k1,k3,this.2.1⟩,this.2.2⟩
 case call c=>
  split at h
  ·rename_i x t h1 h2 h3
   have:=jE h hl
   obtain⟨k1,k2⟩:=A x this.1
   simp only [El,rd,h1,h2,h3,OV,bnd,k2]
   exact⟨⟨k1,this.2.1⟩,this.2.2⟩
  ·exact O0 h hl
def uB (P:Program) (st:St) (g:Bool) (u:Option V) (op:Op):CV:=
 match u with
 | none=>yj P st g none op
 | some u=>match yj P st g (some u) op with
   | some (l,v)=>some (l++[v=u],u)
   | none=>none
theorem NA {P:Program} {st:St} {g:Bool} {u:Option V} {op:Op} {l:List Prop} {v:V} (h:uB P st g u op=some (l,v)) (hl:Bb l):(El P st g op).1∧(El P st g op).2=v:=by
 cases u with
 | none=>simp only [uB]at h;exact ZH h hl
 | some u=>
   simp only [uB]at h
   split at h
   ·rename_i l1 v1 h1
    simp only [Option.some.injEq,Prod.mk.injEq]at h
    obtain⟨rfl,rfl⟩:=h
    obtain⟨q1,q2,_⟩:=Ak.1 hl
    obtain⟨k1,k2⟩:=ZH h1 q1
    exact⟨k1,k2.trans q2⟩
   ·cases h
end Go.PL
namespace Go.PL
open Go Go.RowKit
mutual
def C.menP (p:AC→Bool):C→Bool
 | .osl i=>p i
 | .ptr i _=>p i
 | .bsl i _ _=>p i
 | .bld i _=>p i
 | .mref i=>p i
 | .clo _ cs=>L6 p cs
 | .bmv _ cs=>L6 p cs
 | _=>false
def L6 (p:AC→Bool):List C→Bool
 | []=>false
 | c::cs=>c.menP p||L6 p cs
end
mutual
def V.menP (p:AC→Bool):V→Bool
 | .c x=>x.menP p
 | .agg cs=>L6 p cs
 | .tup vs=>mJ p vs
 | .g _ v=>v.menP p
 | .undef =>false
def mJ (p:AC→Bool):List V→Bool
 | []=>false
 | v::vs=>v.menP p||mJ p vs
end
def HC (p:AC→Bool) (c:C):C:=if c.menP p then .any else c
def L7 (p:AC→Bool) (v:V):V:=if v.menP p then .undef else v
def AY.killP (p:AC→Bool) (e:AY):AY:=match e with
 | ⟨i,r,cs,true⟩=>⟨i,r,cs,true⟩
 | ⟨i,r,cs,false⟩=>⟨i,r,cs.map (HC p),false⟩
theorem AY.killP_id (p:AC→Bool) (e:AY):(e.killP p).id =e.id:=by obtain⟨i,r,cs,_ | _⟩:=e<;>rfl
theorem AY.killP_pu (p:AC→Bool) (e:AY):(e.killP p).pu =e.pu:=by obtain⟨i,r,cs,_ | _⟩:=e<;>rfl
mutual
theorem jF (p:AC→Bool) (i:AC): ∀ c:C,c.menP p=false→c.men i=true→p i=false
 | .osl _,h,k=>by simp only [C.menP,C.men,beq_iff_eq]at h k;rw [←k];exact h
 | .ptr _ _,h,k=>by simp only [C.menP,C.men,beq_iff_eq]at h k;rw [←k];exact h
 | .bsl _ _ _,h,k=>by simp only [C.menP,C.men,beq_iff_eq]at h k;rw [←k];exact h
 | .bld _ _,h,k=>by simp only [C.menP,C.men,beq_iff_eq]at h k;rw [←k];exact h
 | .mref _,h,k=>by simp only [C.menP,C.men,beq_iff_eq]at h k;rw [←k];exact h
 | .clo _ cs,h,k=>bW p i cs (by simpa only [C.menP] using h) (by simpa only [C.men] using k)
 | .bmv _ cs,h,k=>bW p i cs (by simpa only [C.menP] using h) (by simpa only [C.men] using k)
 | .int ..,_,k=>by simp [C.men]at k
 | .bool _,_,k=>by simp [C.men]at k
 | .str _,_,k=>by simp [C.men]at k
 | .sl ..,_,k=>by simp [C.men]at k
 | .iptr ..,_,k=>by simp [C.men]at k
 | .nilp,_,k=>by simp [C.men]at k
 | .niface,_,k=>by simp [C.men]at k
 | .nils,_,k=>by simp [C.men]at k
 | .fn _,_,k=>by simp [C.men]at k
 | .held,_,k=>by simp [C.men]at k
 | .any,_,k=>by simp [C.men]at k
 | .gptr ..,_,k=>by simp [C.men]at k
 | .mp _,_,k=>by simp [C.men]at k
 | .isl ..,_,k=>by simp [C.men]at k
theorem bW (p:AC→Bool) (i:AC): ∀ cs:List C,L6 p cs=false→Cw i cs=true→p i=false
 | [],_,k=>by simp [Cw]at k
 | c::cs,h,k=>by
   simp only [L6,Bool.or_eq_false_iff]at h
   simp only [Cw,Bool.or_eq_true]at k
   rcases k with k | k
   ·exact jF p i c h.1 k
   ·exact bW p i cs h.2 k
end
mutual
theorem jG (p:AC→Bool) (i:AC): ∀ v:V,v.menP p=false→v.men i=true→p i=false
 | .c x,h,k=>jF p i x (by simpa only [V.menP] using h) (by simpa only [V.men] using k)
 | .agg cs,h,k=>bW p i cs (by simpa only [V.menP] using h) (by simpa only [V.men] using k)
 | .tup vs,h,k=>mK p i vs (by simpa only [V.menP] using h) (by simpa only [V.men] using k)
 | .g b v,h,k=>by
   simp only [V.men,Bool.and_eq_true]at k
   exact jG p i v (by simpa only [V.menP] using h) k.1
 | .undef,_,k=>by simp [V.men]at k
theorem mK (p:AC→Bool) (i:AC): ∀ vs:List V,mJ p vs=false→LN i vs=true→p i=false
 | [],_,k=>by simp [LN]at k
 | v::vs,h,k=>by
   simp only [mJ,Bool.or_eq_false_iff]at h
   simp only [LN,Bool.or_eq_true]at k
   rcases k with k | k
   ·exact jG p i v h.1 k
   ·exact mK p i vs h.2 k
end
theorem jH {p:AC→Bool} {i:AC} {c:C} (h:(HC p c).men i=true):p i=false:=by
 unfold HC at h
 split at h
 ·simp [C.men]at h
 ·rename_i q;exact jF p i c (by simpa using q) h
theorem O1 {p:AC→Bool} {i:AC} {v:V} (h:(L7 p v).men i=true):p i=false:=by
 unfold L7 at h
 split at h
 ·simp [V.men]at h
 ·rename_i q;exact jG p i v (by simpa using q) h
theorem jI {w:World} {G:Bp} {p:AC→Bool} {c:C} {v:Value} (h:As w G c v):As w G (HC p c) v:=by
 unfold HC;split
 ·simp only [As];exact h.one
 ·exact h
theorem O2 {w:World} {G:Bp} {p:AC→Bool} {x:V} {v:Value} (h:Am w G x v):Am w G (L7 p x) v:=by
 unfold L7;split
 ·simp only [Am]
 ·exact h
theorem jJ {p:AC→Bool} {e:AY} (h:e.pu=true→AJ e.cs=true):(e.killP p).pu =true→AJ (e.killP p).cs =true:=by
 obtain⟨i,r,cs,pu⟩:=e
 cases pu with
 | true=>exact h
 | false=>intro hq;cases hq
theorem pW (cs:List C):L6 (fun _=>false) cs=false:=by
 have key: ∀ c:C,c.menP (fun _=>false)=false:=by
  intro c
  induction c using C.rec (motive_2:=fun cs=>L6 (fun _=>false) cs=false)<;>simp_all [C.menP,L6]
 induction cs with
 | nil=>rfl
 | cons c cs ih=>simp [L6,key,ih]
theorem sT (c:C):c.menP (fun _=>false)=false:=by
 have:=pW [c]
 simpa [L6] using this
theorem ZI: ∀ cs:List C,cs.map (HC (fun _=>false))=cs
 | []=>rfl
 | c::cs=>by rw [List.map_cons,ZI cs,HC,if_neg (by simp [sT])]
theorem AY.killP_ff (e:AY):e.killP (fun _=>false)=e:=by
 obtain⟨i,r,cs,_ | _⟩:=e
 ·simp only [AY.killP,ZI]
 ·rfl
structure Turn (F:Fr) (p q:AC→Bool) (G G':Bp) (w w':World):Prop where
 agree: ∀ i,p i=false→G'.blk i=G.blk i∧G'.own i=G.own i
 same: ∀ i b,q i=false→G.blk i=some b→w'.heap[b]? =w.heap[b]?
 keeps:Fv G G' w w'
 outer:PR w w'
 ext: ∀ b,b<F.w0.heap.size→ ¬F.old b→w'.heap[b]? =w.heap[b]?
 wr: ∀ b,G'.wr b↔F.av b∨ ∃ i,G'.blk i=some b
 inj: ∀ i j b,G'.blk i=some b→G'.blk j=some b→i=j
 lt: ∀ i b,G'.blk i=some b→b<w'.heap.size
 new: ∀ i b,G'.blk i=some b→F.w0.heap.size≤b∨F.old b
def St.killP (st:St) (p:AC→Bool) (so:List AY):St:={tm:=st.tm.map (L7 p),so:=so,gh:=st.gh.map (L7 p),pre:=st.pre}
section
variable {F:Fr} {st:St} {a:Act} {w w':World} {G G':Bp} {p q:AC→Bool}
theorem fb (h:R F st a w G) {i0:AC} {b:Nat} (hb:G.blk i0=some b) {cur:Array Value} {T:TypeId} (hh:w.heap[b]? =some (.cells cur T (0,0))) (row:Array Value):Turn F (fun _=>false) (· ==i0) G G w (w.setRow b row) where
 agree:=fun _ _=>⟨rfl,rfl⟩
 same:=fun i b' hi hb'=>setRow_other w b b' _ (fun e=>by
  have:=h.inj i i0 b' hb' (by rw [e];exact hb)
  rw [this]at hi;simp at hi)
 keeps:=⟨by simp,fun k _ hw=>setRow_other w b k _ (fun e=>hw ((h.wr k).2 (.inr ⟨i0,by rw [e];exact hb⟩))),fun _ _ q=>q,fun i k h1 _=>by
  by_cases hkb:k=b
  ·subst hkb
   intro cur' T' fz' hq
   rw [hh]at hq
   injection hq with hq
   injection hq with _ hq _
   subst hq
   exact⟨_,_,setRow_heap w k cur row T (0,0) hh⟩
  ·exact DG.same (setRow_other w b k _ hkb)⟩
 outer:=⟨by simp,by simp,by simp⟩
 ext:=fun k hk ho=>setRow_other w b k _ (fun e=>by
  rcases h.new i0 b hb with q | q
  ·omega
  ·exact ho (by rw [e];exact q))
 wr:=h.wr
 inj:=h.inj
 lt:=fun i k hi=>by simpa using h.lt i k hi
 new:=h.new
theorem Kt (h:R F st a w G) (G':Bp) (hw:G'.wr=fun b=>F.av b∨ ∃ i,G'.blk i=some b) (ha: ∀ i,p i=false→G'.blk i=G.blk i∧G'.own i=G.own i) (hs: ∀ i b,G'.blk i=some b→ ∃ j,G.blk j=some b)
 (hi: ∀ i j b,G'.blk i=some b→G'.blk j=some b→i=j):Turn F p (fun _=>false) G G' w w where
 agree:=ha
 same:=fun _ _ _ _=>rfl
 keeps:=⟨Nat.le_refl _,fun _ _ _=>rfl,fun b _ hb=>by
  rw [hw]at hb
  rw [h.wr]
  rcases hb with hb | ⟨i,hb⟩
  ·exact .inl hb
  ·exact .inr (hs i b hb),fun _ _ _ _=>DG.same rfl⟩
 outer:=⟨rfl,rfl,rfl⟩
 ext:=fun _ _ _=>rfl
 wr:=fun b=>by rw [hw]
 inj:=hi
 lt:=fun i b hb=>by obtain⟨j,hj⟩:=hs i b hb;exact h.lt j b hj
 new:=fun i b hb=>by obtain⟨j,hj⟩:=hs i b hb;exact h.new j b hj
end
def St.lookD (st:St) (id:AC):Option AY:=st.so.find? (fun e=>e.id==id&&Lo e.id)
theorem ZJ {st:St} {id:AC} {e:AY} (h:st.lookD id=some e):e∈st.so∧e.id=id∧Lo id=true:=by
 have:=List.find?_some h
 simp only [Bool.and_eq_true,beq_iff_eq]at this
 exact⟨List.mem_of_find?_eq_some h,this.1,by rw [←this.1];exact this.2⟩
def setE (id:AC) (row:Option (TypeId×Nat×Nat)) (cells:List C) (e:AY):AY:=match e.id==id with
 | true=>⟨e.id,row,cells,e.pu⟩
 | false=>e
theorem mL (id:AC) (row:Option (TypeId×Nat×Nat)) (cells:List C) (e:AY):(setE id row cells e).id =e.id:=by unfold setE;split<;>rfl
theorem bX {id:AC} {row:Option (TypeId×Nat×Nat)} {cells:List C} {e:AY} (h:e.id ≠ id):setE id row cells e=e:=by unfold setE;rw [show (e.id==id)=false by simpa using h]
theorem P2 {id:AC} {row:Option (TypeId×Nat×Nat)} {cells:List C} {e:AY} (h:e.id=id):setE id row cells e=⟨e.id,row,cells,e.pu⟩:=by unfold setE;rw [show (e.id==id)=true by simpa using h]
def ek (id:AC):AC→Bool
 | m::_::j=>Nat.beq m 1000007&&j==id
 | _=>false
theorem R6 (id:AC) (k:Nat) (j:AC):ek id (CM k j)=(j==id):=by simp [ek,CM]
theorem IF {w:World} {G:Bp}: ∀ {cs:List C} {b o j:Nat} {c:C},AE w G cs b o→(∀ v d,cs[j]? =some d→w.cell? ⟨b,o+j,none⟩=some v→As w G d v→As w G c v)→AE w G (cs.set j c) b o
 | [],_,_,_,_,h,_=>by simpa using h
 | d::cs,b,o,0,c,h,hc=>by
   simp only [AE]at h
   simp only [List.set_cons_zero,AE]
   obtain⟨⟨v,h1,h2⟩,h3⟩:=h
   exact⟨⟨v,h1,hc v d (by simp) (by simpa using h1) h2⟩,h3⟩
 | d::cs,b,o,j+1,c,h,hc=>by
   simp only [AE]at h
   simp only [List.set_cons_succ,AE]
   exact⟨h.1,IF h.2 (fun v d hd hv=>hc v d (by simpa using hd) (by rw [show o+(j+1)=o+1+j by omega];exact hv))⟩
section
variable {F:Fr} {st:St} {a:Act} {w w':World} {G G':Bp} {p q:AC→Bool}
theorem P3 (l:List AY):l.map (AY.killP fun _=>false)=l:=by
 induction l with
 | nil=>rfl
 | cons x l ih=>rw [List.map_cons,ih,AY.killP_ff]
end
end Go.PL
namespace Go.PL
open Go Go.RowKit
section
variable {F:Fr} {st:St} {a:Act} {w w':World} {G G':Bp} {p q:AC→Bool}
theorem L8 (l:List AY):l.filter (fun _=>true)=l:=List.filter_eq_self.2 (fun _ _=>rfl)
theorem CH {id j:AC} (h:Fs id=false) (k:Nat):id ≠ CM k j:=fun e=>by rw [e]at h;cases h
theorem T6 (h:R F st a w G) {i0:AC} (d:AY) (hd:d∈st.so) (hne:d.id ≠ i0) (hmk: ∀ k,Lo d.id=true→CM k d.id ≠ i0):
 (fun _=>false:AC→Bool) d.id=false∧(d.id==i0)=false∧(Lo d.id=true→ ∀ k,(fun _=>false:AC→Bool) (CM k d.id)=false∧(CM k d.id==i0)=false):=
 ⟨rfl,by simpa using hne,fun hq k=>⟨rfl,by simpa using hmk k hq⟩⟩
def St.setD (st:St) (id:AC) (row:Option (TypeId×Nat×Nat)) (cells:List C):St:={st with so:=st.so.map (setE id row cells)}
theorem R.innerStored (h:R F st a w G) {id:AC} {e:AY} (hl:st.lookD id=some e) {k n len:Nat} {E:TypeId} {cs:List C} (hk:e.cs[k]? =some (.isl E n len cs)) {b:Nat} (hb:G.blk (CM k id)=some b)
 {off:Nat} {xs:List C} {vs:List Value} (hx:AG w G xs vs) (hoff:off+xs.length≤cs.length) (hp:AJ xs=true):
 ∃ cur T,w.heap[b]? =some (.cells cur T (0,0))∧off+vs.length≤cur.size∧
   R F (st.setD id e.row (e.cs.set k (.isl E n len (cs.take off++xs++cs.drop (off+xs.length))))) a (w.setRow b (cur.toList.take off++vs++cur.toList.drop (off+vs.length)).toArray) G:=by
 obtain⟨hm,hid,hd,hmk,hpu,hpe,hi,E0,n0,len0,hr⟩:=h.deepRow hl
 obtain⟨hpc,hE,bo,vo,hbo,hcell,hown⟩:=h.inner hl hk
 unfold Ck at hE
 obtain⟨hcl,v,h1,h2 | ⟨b',cap,cur,e1,e2,e3,e4,e5,e6,e7⟩⟩:=hE
 ·obtain⟨_,_,_,h2⟩:=h2;rw [hb]at h2;cases h2
 rw [show (⟨CM k id,some (E,n,len),cs,true⟩:AY).id =CM k id from rfl]at h1 e2
 rw [hb]at e2;injection e2 with e2;subst e2
 obtain⟨us,r1,r2⟩:=e7.list
 simp only at r1 e7 hcl
 have hlx:=hx.length
 have hlu:=r1.length
 have hle:cs.length≤cur.size:=by rw [hcl,e6];exact Nat.mul_le_mul_right _ e4
 have hpre:=FX e3 r2
 refine⟨cur,E,e3,by omega,?_⟩
 have t:=fb h hb e3 (cur.toList.take off++vs++cur.toList.drop (off+vs.length)).toArray
 have hnew:=setRow_heap w b cur (cur.toList.take off++vs++cur.toList.drop (off+vs.length)).toArray E (0,0) e3
 have hsplit:(us.take off++vs++us.drop (off+vs.length))++cur.toList.drop us.length=(cur.toList.take off++vs++cur.toList.drop (off+vs.length)).toArray.toList :=by
  conv=>rhs;rw [←hpre]
  simp only [List.append_assoc]
  rw [List.take_append_of_le_length (by omega),List.drop_append_of_le_length (by omega)]
 have hrange:=CN hnew hsplit
 have hl2:AG w G (cs.take off++xs++cs.drop (off+xs.length)) (us.take off++vs++us.drop (off+vs.length)):=by
  rw [hlx]
  exact((r1.take off).append hx).append (r1.drop _)
 have hrow':=AE.of_list (AG.mono t.keeps _ _ (fun _ _=>⟨rfl,rfl⟩) hl2) hrange
 have hlen:(cs.take off++xs++cs.drop (off+xs.length)).length =cs.length:=by simp;omega
 have hcur:(cur.toList.take off++vs++cur.toList.drop (off+vs.length)).toArray.size =cur.size:=by simp;omega
 have hpx:AJ (cs.take off++xs++cs.drop (off+xs.length))=true:=by
  rw [BN,BN,Kk _ hpc,hp,Kl _ hpc];rfl
 have hne:bo ≠ b:=fun q=>CH hmk k (h.inj _ _ bo hbo (by rw [q];exact hb))
 have hcs: ∀ o,(w.setRow b (cur.toList.take off++vs++cur.toList.drop (off+vs.length)).toArray).cell? ⟨bo,o,none⟩=w.cell? ⟨bo,o,none⟩:=fun o=>cell?_of_block' (setRow_other w b bo _ hne) o
 obtain⟨E1,n1,len1,v1,cap1,cur1,g1,g2,g3,g4,g5,g6,g7,g8,g9⟩:=h.deepRel hl hbo
 have hcells:AJ (e.cs.set k (.isl E n len (cs.take off++xs++cs.drop (off+xs.length))))=true:=by
  rw [CS,List.all_eq_true]at hpe ⊢
  intro c hc
  rcases List.mem_or_eq_of_mem_set hc with q | q
  ·exact hpe c q
  ·rw [q];rfl
 have hrel:Ck (w.setRow b (cur.toList.take off++vs++cur.toList.drop (off+vs.length)).toArray) G ⟨id,e.row,e.cs.set k (.isl E n len (cs.take off++xs++cs.drop (off+xs.length))),true⟩:=by
  unfold Ck
  rw [g1]
  refine⟨by rw [List.length_set];exact g2,v1,g3, .inr ⟨bo,cap1,cur1,g4,hbo,by rw [setRow_other w b bo _ hne];exact g5,g6,g7,g8,?_⟩⟩
  refine IF (AE.mono t.keeps _ _ _ (fun _ _=>⟨rfl,rfl⟩) hcs g9) (fun u d hd _ hrd=>?_)
  rw [hk]at hd;injection hd with hd;subst hd
  simp only [As]at hrd ⊢
  exact hrd
 have hin:GV (w.setRow b (cur.toList.take off++vs++cur.toList.drop (off+vs.length)).toArray) G ⟨id,e.row,e.cs.set k (.isl E n len (cs.take off++xs++cs.drop (off+xs.length))),true⟩:=by
  intro j E2 n2 len2 cs2 hj
  simp only [List.getElem?_set]at hj
  split at hj
  ·rename_i hkj
   subst hkj
   split at hj
   ·injection hj with hj
    injection hj with q1 q2 q3 q4
    subst q1 q2 q3 q4
    refine⟨hpx,?_,bo,vo,hbo,by rw [hcs];exact hcell,hown⟩
    unfold Ck
    exact⟨by rw [hlen];exact hcl,v,h1, .inr ⟨b,cap,_,e1,hb,hnew,e4,e5,by rw [hcur];exact e6,hrow'⟩⟩
   ·cases hj
  ·rename_i hkj
   obtain⟨k1,k2,b2,v2,k3,k4,k5⟩:=h.inner hl hj
   refine⟨k1,Ds t.keeps (fun _ _=>⟨rfl,rfl⟩) ⟨rfl,rfl⟩ (fun b3 hb3=>setRow_other w b b3 _ (fun q=>?_)) k2,b2,v2,k3,?_,k5⟩
   ·have:=h.inj _ _ b3 hb3 (by rw [q];exact hb)
    exact hkj (Vv this).1.symm
   ·rw [hbo]at k3;injection k3 with k3;subst k3
    rw [hcs];exact k4
 have hents:=t.ents h hl (fun _=>true) (fun d hd' _ hne'=>T6 h d hd' (fun q2=>CH (h.deep d hd').1 k q2) (fun j _ q2=>hne' (Vv q2).2)) (by rw [g1];rfl) hrel hin hcells
 rw [L8,P3]at hents
 exact t.kept h _ hents.1 hents.2.1 hents.2.2.1 hents.2.2.2
def xc:C→Bool
 | .isl .. =>false
 | _=>true
theorem R.deepStored (h:R F st a w G) {id:AC} {e:AY} (hl:st.lookD id=some e) {b:Nat} (hb:G.blk id=some b)
 {off:Nat} {xs:List C} {vs:List Value} (hx:AG w G xs vs) (hoff:off+xs.length≤e.cs.length) (hp:AJ xs=true) (hn:xs.all xc=true):
 ∃ cur T,w.heap[b]? =some (.cells cur T (0,0))∧off+vs.length≤cur.size∧
   R F (st.setD id e.row (e.cs.take off++xs++e.cs.drop (off+xs.length))) a (w.setRow b (cur.toList.take off++vs++cur.toList.drop (off+vs.length)).toArray) G:=by
 obtain⟨hm,hid,hd,hmk,hpu,hpe,hi,E0,n0,len0,hr⟩:=h.deepRow hl
 obtain⟨E,n,len,v,cap,cur,g1,g2,g3,g4,g5,g6,g7,g8,g9⟩:=h.deepRel hl hb
 obtain⟨us,r1,r2⟩:=g9.list
 have hlx:=hx.length
 have hlu:=r1.length
 have hle:e.cs.length≤cur.size:=by rw [g2,g8];exact Nat.mul_le_mul_right _ g6
 have hpre:=FX g5 r2
 refine⟨cur,E,g5,by omega,?_⟩
 have t:=fb h hb g5 (cur.toList.take off++vs++cur.toList.drop (off+vs.length)).toArray
 have hnew:=setRow_heap w b cur (cur.toList.take off++vs++cur.toList.drop (off+vs.length)).toArray E (0,0) g5
 have hsplit:(us.take off++vs++us.drop (off+vs.length))++cur.toList.drop us.length=(cur.toList.take off++vs++cur.toList.drop (off+vs.length)).toArray.toList :=by
  conv=>rhs;rw [←hpre]
  simp only [List.append_assoc]
  rw [List.take_append_of_le_length (by omega),List.drop_append_of_le_length (by omega)]
 have hrange:=CN hnew hsplit
 have hl2:AG w G (e.cs.take off++xs++e.cs.drop (off+xs.length)) (us.take off++vs++us.drop (off+vs.length)):=by
  rw [hlx]
  exact((r1.take off).append hx).append (r1.drop _)
 have hrow':=AE.of_list (AG.mono t.keeps _ _ (fun _ _=>⟨rfl,rfl⟩) hl2) hrange
 have hlen:(e.cs.take off++xs++e.cs.drop (off+xs.length)).length =e.cs.length:=by simp;omega
 have hcur:(cur.toList.take off++vs++cur.toList.drop (off+vs.length)).toArray.size =cur.size:=by simp;omega
 have hpx:AJ (e.cs.take off++xs++e.cs.drop (off+xs.length))=true:=by
  rw [BN,BN,Kk _ hpe,hp,Kl _ hpe];rfl
 have hrel:Ck (w.setRow b (cur.toList.take off++vs++cur.toList.drop (off+vs.length)).toArray) G ⟨id,e.row,e.cs.take off++xs++e.cs.drop (off+xs.length),true⟩:=by
  unfold Ck
  rw [g1]
  exact⟨by rw [hlen];exact g2,v,g3, .inr ⟨b,cap,_,g4,hb,hnew,g6,g7,by rw [hcur];exact g8,hrow'⟩⟩
 have hin:GV (w.setRow b (cur.toList.take off++vs++cur.toList.drop (off+vs.length)).toArray) G ⟨id,e.row,e.cs.take off++xs++e.cs.drop (off+xs.length),true⟩:=by
  intro j E2 n2 len2 cs2 hj
  simp only at hj
  have hj2:(j<off∨off+xs.length≤j)∧e.cs[j]? =some (.isl E2 n2 len2 cs2):=by
   rw [List.append_assoc]at hj
   have htl:(e.cs.take off).length =off:=by rw [List.length_take];omega
   by_cases q1:j<off
   ·rw [List.getElem?_append_left (by omega),List.getElem?_take,if_pos q1]at hj
    exact⟨.inl q1,hj⟩
   ·rw [List.getElem?_append_right (by omega),htl]at hj
    by_cases q2:j<off+xs.length
    ·rw [List.getElem?_append_left (by omega)]at hj
     have:=List.all_eq_true.1 hn _ (List.mem_of_getElem? hj)
     cases this
    ·rw [List.getElem?_append_right (by omega),List.getElem?_drop]at hj
     exact⟨.inr (by omega),by rw [←hj];congr 1;omega⟩
  obtain⟨k1,k2,b2,v2,k3,k4,k5⟩:=h.inner hl hj2.2
  rw [hb]at k3;injection k3 with k3;subst k3
  refine⟨k1,Ds t.keeps (fun _ _=>⟨rfl,rfl⟩) ⟨rfl,rfl⟩ (fun b3 hb3=>setRow_other w b b3 _ (fun q=>?_)) k2,b,v2,hb,?_,k5⟩
  ·exact CH hmk j (h.inj _ _ b hb (by rw [←q];exact hb3))
  ·have hjl:j<e.cs.length:=(List.getElem?_eq_some_iff.1 hj2.2).1
   simp only [World.cell?,hnew]
   simp only [World.cell?,g5]at k4
   have hold:cur.toList[j]? =some v2:=by simpa using k4
   have htl:(cur.toList.take off).length =off:=by rw [List.length_take];simp;omega
   have:(cur.toList.take off++vs++cur.toList.drop (off+vs.length))[j]? =some v2:=by
    rw [List.append_assoc]
    rcases hj2.1 with q1 | q1
    ·rw [List.getElem?_append_left (by omega),List.getElem?_take,if_pos q1];exact hold
    ·rw [List.getElem?_append_right (by omega),htl,List.getElem?_append_right (by omega),List.getElem?_drop]
     rw [←hold];congr 1;omega
   simpa using this
 have hents:=t.ents h hl (fun _=>true) (fun d hd' _ hne'=>T6 h d hd' hne' (fun j _ q2=>CH hmk j q2.symm)) (by rw [g1];rfl) hrel hin hpx
 rw [L8,P3]at hents
 exact t.kept h _ hents.1 hents.2.1 hents.2.2.1 hents.2.2.2
theorem Wm {id i:AC} (h:ek id i=true):Fs i=true:=by
 match i,h with
 | m::k::j,h=>
   simp only [ek,Bool.and_eq_true]at h
   exact h.1
def pD (r id i:AC):Bool:=i==r||ek id i
theorem pX (h:R F st a w G) {r id:AC} (hr:Fs r=false) {d:AY} (hd:d∈st.so) (h1:d.id ≠ r) (h2:d.id ≠ id):pD r id d.id=false∧(Lo d.id=true→ ∀ k,pD r id (CM k d.id)=false∧(fun _=>false:AC→Bool) (CM k d.id)=false):=by
 refine⟨?_,fun _ k=>⟨?_,rfl⟩⟩
 ·unfold pD
  rw [show (d.id==r)=false by simpa using h1,Bool.false_or]
  cases hq:ek id d.id with
  | false=>rfl
  | true=>
    have:=Wm hq
    rw [(h.deep d hd).1]at this;cases this
 ·unfold pD
  rw [show (CM k d.id==r)=false by simpa using (CH hr k).symm,Bool.false_or,R6]
  simpa using h2
theorem R.absorb (h:R F st a w G) {id r:AC} {e er:AY} (hl:st.lookD id=some e) (hr:st.look r=some er) {E:TypeId} {n len:Nat} (hrow:er.row=some (E,n,len)) (hpr:er.pu=true)
 {k b:Nat} {v:Value} (hb:G.blk id=some b) (hc:w.cell? ⟨b,k,none⟩=some v) (ho:G.own r=some v) (hk:k<e.cs.length):
 ∃ G',R F (st.killP (pD r id) (((st.so.filter (fun d=>d.id != r)).map (AY.killP (pD r id))).map (setE id e.row (e.cs.set k (.isl E n len er.cs))))) a w G'∧G'.own id=G.own id:=by
 obtain⟨hm,hid,hd,hmk,hpu,hpe,hi,E0,n0,len0,hr0⟩:=h.deepRow hl
 obtain⟨hmr,hidr⟩:=Ct hr
 have hndr:=PM hr
 have hmkr:Fs r=false:=by rw [←hidr];exact(h.deep er hmr).1
 have hrid:r ≠ id:=fun q=>by rw [q,hd]at hndr;cases hndr
 have hpc:=h.pures er hmr hpr
 let G':Bp:=⟨fun i=>if i=r then none else if i=CM k id then G.blk r else G.blk i,fun i=>if i=r then none else if i=CM k id then G.own r else G.own i,fun b=>F.av b∨ ∃ i,(if i=r then none else if i=CM k id then G.blk r else G.blk i)=some b⟩
 have hag: ∀ i,pD r id i=false→G'.blk i=G.blk i∧G'.own i=G.own i:=by
  intro i hpi
  simp only [pD,Bool.or_eq_false_iff,beq_eq_false_iff_ne]at hpi
  have h2:i ≠ CM k id:=fun q=>by rw [q,R6]at hpi;simp at hpi
  exact⟨by simp only [G',if_neg hpi.1,if_neg h2],by simp only [G',if_neg hpi.1,if_neg h2]⟩
 have t:Turn F (pD r id) (fun _=>false) G G' w w:=Kt h G' rfl hag (fun i b hib=>by
  simp only [G']at hib
  split at hib
  ·cases hib
  ·split at hib
   ·exact⟨r,hib⟩
   ·exact⟨i,hib⟩) (fun i j b hib hjb=>by
  simp only [G']at hib hjb
  split at hib
  ·cases hib
  ·rename_i q1
   split at hjb
   ·cases hjb
   ·rename_i q2
    split at hib<;>split at hjb
    ·simp_all
    ·exact absurd (h.inj _ _ b hjb hib) q2
    ·exact absurd (h.inj _ _ b hib hjb) q1
    ·exact h.inj _ _ b hib hjb)
 have hne:id ≠ CM k id:=CH hmk k
 have gid:G'.blk id=G.blk id∧G'.own id=G.own id:=⟨by simp only [G',if_neg hrid.symm,if_neg hne],by simp only [G',if_neg hrid.symm,if_neg hne]⟩
 have gk:G'.blk (CM k id)=G.blk r∧G'.own (CM k id)=G.own r:=by
  have:CM k id ≠ r:=(CH hmkr k).symm
  exact⟨by simp only [G',if_neg this,if_true],by simp only [G',if_neg this,if_true]⟩
 have gj: ∀ j,j ≠ k→G'.blk (CM j id)=G.blk (CM j id)∧G'.own (CM j id)=G.own (CM j id):=by
  intro j hj
  have h1:CM j id ≠ r:=(CH hmkr j).symm
  have h2:CM j id ≠ CM k id:=fun q=>hj (Vv q).1
  exact⟨by simp only [G',if_neg h1,if_neg h2],by simp only [G',if_neg h1,if_neg h2]⟩
 obtain⟨E1,n1,len1,v1,cap1,cur1,g1,g2,g3,g4,g5,g6,g7,g8,g9⟩:=h.deepRel hl hb
 have hcells:AJ (e.cs.set k (.isl E n len er.cs))=true:=by
  rw [CS,List.all_eq_true]at hpe ⊢
  intro c hc
  rcases List.mem_or_eq_of_mem_set hc with q | q
  ·exact hpe c q
  ·rw [q];rfl
 have hno: ∀ cs:List C,AJ cs=true→Ln (fun i=>Cw i cs=true) G G':=fun cs hp i hi'=>absurd (show Cw i cs=true from hi') (by rw [BP i cs hp];simp)
 have hrel:Ck w G' ⟨id,e.row,e.cs.set k (.isl E n len er.cs),true⟩:=by
  unfold Ck
  rw [g1]
  refine⟨by rw [List.length_set];exact g2,v1,by rw [gid.2];exact g3, .inr ⟨b,cap1,cur1,g4,by rw [gid.1];exact hb,g5,g6,g7,g8,?_⟩⟩
  refine IF (AE.mono t.keeps _ _ _ (hno _ hpe) (fun _=>rfl) g9) (fun u d _ _ hrd=>?_)
  simp only [As]
  exact hrd.one
 have hin:GV w G' ⟨id,e.row,e.cs.set k (.isl E n len er.cs),true⟩:=by
  intro j E2 n2 len2 cs2 hj
  simp only [List.getElem?_set]at hj
  split at hj
  ·rename_i hkj
   subst hkj
   ·injection hj with hj
    injection hj with q1 q2 q3 q4
    subst q1 q2 q3 q4
    refine⟨hpc,?_,b,v,by rw [gid.1];exact hb,hc,by rw [gk.2];exact ho⟩
    have hE:=h.store er hmr
    unfold Ck at hE ⊢
    rw [hrow]at hE
    obtain⟨c1,v2,c2,c3⟩:=hE
    refine⟨c1,v2,by rw [gk.2, ←hidr];exact c2,?_⟩
    rcases c3 with ⟨p,c3,c4,c5⟩ | ⟨b',cap,cur,e1,e2,e3,e4,e5,e6,e7⟩
    ·exact .inl ⟨p,c3,c4,by rw [gk.1, ←hidr];exact c5⟩
    ·exact .inr ⟨b',cap,cur,e1,by rw [gk.1, ←hidr];exact e2,e3,e4,e5,e6,AE.mono t.keeps _ _ _ (hno _ hpc) (fun _=>rfl) e7⟩
  ·rename_i hkj
   obtain⟨k1,k2,b2,v2,k3,k4,k5⟩:=h.inner hl hj
   have gjj:=gj j (fun q=>hkj q.symm)
   exact⟨k1,Ds t.keeps (hno _ k1) gjj (fun _ _=>rfl) k2,b2,v2,by rw [gid.1];exact k3,k4,by rw [gjj.2];exact k5⟩
 have hents:=t.ents h hl (fun d=>d.id != r) (fun d hd' hf hne'=>by
  have:=pX h (id:=id) hmkr hd' (by simpa using hf) hne'
  exact⟨this.1,rfl,this.2⟩) (by rw [g1];rfl) hrel hin hcells
 exact⟨G',t.killed h _ hents.1 hents.2.1 hents.2.2.1 hents.2.2.2,gid.2⟩
theorem R.extract (h:R F st a w G) {id r:AC} {e:AY} (hl:st.lookD id=some e) {k n len:Nat} {E:TypeId} {cs:List C} (hk:e.cs[k]? =some (.isl E n len cs)) (hmkr:Fs r=false) (hndr:Lo r=false):
 ∃ G',R F (st.killP (pD r id) (⟨r,some (E,n,len),cs,true⟩::((st.so.filter (fun d=>d.id != r)).map (AY.killP (pD r id))).map (setE id e.row (e.cs.set k .any)))) a w G'∧
   ∃ b v,G.blk id=some b∧w.cell? ⟨b,k,none⟩=some v∧G'.own r=some v∧v.oneCell'=true:=by
 obtain⟨hm,hid,hd,hmk,hpu,hpe,hi,E0,n0,len0,hr0⟩:=h.deepRow hl
 obtain⟨hpc,hE,b,v,hb,hc,ho⟩:=h.inner hl hk
 have hrid:r ≠ id:=fun q=>by rw [q,hd]at hndr;cases hndr
 let G':Bp:=⟨fun i=>if i=r then G.blk (CM k id)else if i=CM k id then none else G.blk i,fun i=>if i=r then G.own (CM k id)else if i=CM k id then none else G.own i,fun b=>F.av b∨ ∃ i,(if i=r then G.blk (CM k id)else if i=CM k id then none else G.blk i)=some b⟩
 have hag: ∀ i,pD r id i=false→G'.blk i=G.blk i∧G'.own i=G.own i:=by
  intro i hpi
  simp only [pD,Bool.or_eq_false_iff,beq_eq_false_iff_ne]at hpi
  have h2:i ≠ CM k id:=fun q=>by rw [q,R6]at hpi;simp at hpi
  exact⟨by simp only [G',if_neg hpi.1,if_neg h2],by simp only [G',if_neg hpi.1,if_neg h2]⟩
 have t:Turn F (pD r id) (fun _=>false) G G' w w:=Kt h G' rfl hag (fun i b hib=>by
  simp only [G']at hib
  split at hib
  ·exact⟨_,hib⟩
  ·split at hib
   ·cases hib
   ·exact⟨i,hib⟩) (fun i j b hib hjb=>by
  simp only [G']at hib hjb
  split at hib<;>split at hjb
  ·simp_all
  ·split at hjb
   ·cases hjb
   ·rename_i q2 q3;exact absurd (h.inj _ _ b hjb hib) q3
  ·split at hib
   ·cases hib
   ·rename_i q3;exact absurd (h.inj _ _ b hib hjb) q3
  ·split at hib
   ·cases hib
   ·split at hjb
    ·cases hjb
    ·exact h.inj _ _ b hib hjb)
 have hne:id ≠ CM k id:=CH hmk k
 have gid:G'.blk id=G.blk id∧G'.own id=G.own id:=⟨by simp only [G',if_neg hrid.symm,if_neg hne],by simp only [G',if_neg hrid.symm,if_neg hne]⟩
 have gr:G'.blk r=G.blk (CM k id)∧G'.own r=G.own (CM k id):=⟨by simp only [G',if_true],by simp only [G',if_true]⟩
 have gj: ∀ j,j ≠ k→G'.blk (CM j id)=G.blk (CM j id)∧G'.own (CM j id)=G.own (CM j id):=by
  intro j hj
  have h1:CM j id ≠ r:=(CH hmkr j).symm
  have h2:CM j id ≠ CM k id:=fun q=>hj (Vv q).1
  exact⟨by simp only [G',if_neg h1,if_neg h2],by simp only [G',if_neg h1,if_neg h2]⟩
 obtain⟨E1,n1,len1,v1,cap1,cur1,g1,g2,g3,g4,g5,g6,g7,g8,g9⟩:=h.deepRel hl hb
 have hcells:AJ (e.cs.set k .any)=true:=by
  rw [CS,List.all_eq_true]at hpe ⊢
  intro c hc
  rcases List.mem_or_eq_of_mem_set hc with q | q
  ·exact hpe c q
  ·rw [q];rfl
 have hno: ∀ cs:List C,AJ cs=true→Ln (fun i=>Cw i cs=true) G G':=fun cs hp i hi'=>absurd (show Cw i cs=true from hi') (by rw [BP i cs hp];simp)
 have hrel:Ck w G' ⟨id,e.row,e.cs.set k .any,true⟩:=by
  unfold Ck
  rw [g1]
  refine⟨by rw [List.length_set];exact g2,v1,by rw [gid.2];exact g3, .inr ⟨b,cap1,cur1,g4,by rw [gid.1];exact hb,g5,g6,g7,g8,?_⟩⟩
  refine IF (AE.mono t.keeps _ _ _ (hno _ hpe) (fun _=>rfl) g9) (fun u d _ _ hrd=>?_)
  simp only [As]
  exact hrd.one
 have hin:GV w G' ⟨id,e.row,e.cs.set k .any,true⟩:=by
  intro j E2 n2 len2 cs2 hj
  simp only [List.getElem?_set]at hj
  split at hj
  ·split at hj
   ·cases hj
   ·cases hj
  ·rename_i hkj
   obtain⟨k1,k2,b2,v2,k3,k4,k5⟩:=h.inner hl hj
   have gjj:=gj j (fun q=>hkj q.symm)
   exact⟨k1,Ds t.keeps (hno _ k1) gjj (fun _ _=>rfl) k2,b2,v2,by rw [gid.1];exact k3,k4,by rw [gjj.2];exact k5⟩
 have hents:=t.ents h hl (fun d=>d.id != r) (fun d hd' hf hne'=>by
  have:=pX h (id:=id) hmkr hd' (by simpa using hf) hne'
  exact⟨this.1,rfl,this.2⟩) (by rw [g1];rfl) hrel hin hcells
 have hone:v.oneCell'=true:=by
  unfold Ck at hE
  obtain⟨_,v2,c2,c3⟩:=hE
  rw [show (⟨CM k id,some (E,n,len),cs,true⟩:AY).id =CM k id from rfl,ho]at c2
  injection c2 with c2;subst c2
  rcases c3 with ⟨p,rfl,_⟩ | ⟨b',cap,cur,rfl,_⟩<;>rfl
 refine⟨G',t.killed h _ ?_ ?_ ?_ ?_,b,v,hb,hc,by rw [gr.2];exact ho,hone⟩
 ·intro x hx
  rcases List.mem_cons.1 hx with rfl | hx
  ·unfold Ck at hE ⊢
   obtain⟨c1,v2,c2,c3⟩:=hE
   refine⟨c1,v2,by rw [gr.2];exact c2,?_⟩
   rcases c3 with ⟨p,c3,c4,c5⟩ | ⟨b',cap,cur,e1,e2,e3,e4,e5,e6,e7⟩
   ·exact .inl ⟨p,c3,c4,by rw [gr.1];exact c5⟩
   ·exact .inr ⟨b',cap,cur,e1,by rw [gr.1];exact e2,e3,e4,e5,e6,AE.mono t.keeps _ _ _ (hno _ hpc) (fun _=>rfl) e7⟩
  ·exact hents.1 x hx
 ·intro x hx
  rcases List.mem_cons.1 hx with rfl | hx
  ·exact DA.triv hmkr hndr
  ·exact hents.2.1 x hx
 ·intro x hx
  rcases List.mem_cons.1 hx with rfl | hx
  ·exact fun _=>hpc
  ·exact hents.2.2.1 x hx
 ·rw [List.map_cons]
  refine List.nodup_cons.2 ⟨?_,hents.2.2.2⟩
  simp only [List.map_map,List.mem_map,List.mem_filter,Function.comp,mL,AY.killP_id,not_exists,not_and]
  intro x hx q
  simp only [bne_iff_ne]at hx
  exact hx.2 q
theorem R.deepen (h:R F st a w G) {r id:AC} {er:AY} (hr:st.look r=some er) {E:TypeId} {n len:Nat} (hrow:er.row=some (E,n,len)) (hpr:er.pu=true) (hn:er.cs.all xc=true) (hd:Lo id=true) (hmk:Fs id=false):
 ∃ G',R F (st.killP (fun i=>i==r||(i==id||ek id i)) (⟨id,some (E,n,len),er.cs,true⟩::((st.so.filter (fun d=>d.id != r&&d.id != id)).map (AY.killP (fun i=>i==r||(i==id||ek id i)))))) a w G'∧G'.own id=G.own r:=by
 obtain⟨hmr,hidr⟩:=Ct hr
 have hndr:=PM hr
 have hmkr:Fs r=false:=by rw [←hidr];exact(h.deep er hmr).1
 have hrid:r ≠ id:=fun q=>by rw [q,hd]at hndr;cases hndr
 have hpc:=h.pures er hmr hpr
 let G':Bp:=⟨fun i=>if i=r then none else if i=id then G.blk r else G.blk i,fun i=>if i=r then none else if i=id then G.own r else G.own i,fun b=>F.av b∨ ∃ i,(if i=r then none else if i=id then G.blk r else G.blk i)=some b⟩
 have t:Turn F (fun i=>i==r||(i==id||ek id i)) (fun _=>false) G G' w w:=Kt h G' rfl (fun i hpi=>by
  simp only [Bool.or_eq_false_iff,beq_eq_false_iff_ne]at hpi
  exact⟨by simp only [G',if_neg hpi.1,if_neg hpi.2.1],by simp only [G',if_neg hpi.1,if_neg hpi.2.1]⟩) (fun i b hib=>by
  simp only [G']at hib
  split at hib
  ·cases hib
  ·split at hib
   ·exact⟨r,hib⟩
   ·exact⟨i,hib⟩) (fun i j b hib hjb=>by
  simp only [G']at hib hjb
  split at hib
  ·cases hib
  ·rename_i q1
   split at hjb
   ·cases hjb
   ·rename_i q2
    split at hib<;>split at hjb
    ·simp_all
    ·exact absurd (h.inj _ _ b hjb hib) q2
    ·exact absurd (h.inj _ _ b hib hjb) q1
    ·exact h.inj _ _ b hib hjb)
 have gid:G'.blk id=G.blk r∧G'.own id=G.own r:=⟨by simp only [G',if_neg hrid.symm,if_true],by simp only [G',if_neg hrid.symm,if_true]⟩
 have hno: ∀ cs:List C,AJ cs=true→Ln (fun i=>Cw i cs=true) G G':=fun cs hp i hi'=>absurd (show Cw i cs=true from hi') (by rw [BP i cs hp];simp)
 have hp: ∀ d∈st.so,d.id ≠ r→d.id ≠ id→(fun i=>i==r||(i==id||ek id i)) d.id=false∧(Lo d.id=true→ ∀ k,(fun i=>i==r||(i==id||ek id i)) (CM k d.id)=false∧(fun _=>false:AC→Bool) (CM k d.id)=false):=by
  intro d hd' h1 h2
  have hof:ek id d.id=false:=by
   cases hq:ek id d.id with
   | false=>rfl
   | true=>
     have:=Wm hq
     rw [(h.deep d hd').1]at this;cases this
  refine⟨by simp [h1,h2,hof],fun _ k=>⟨?_,rfl⟩⟩
  have e1:(CM k d.id==r)=false:=by simpa using (CH hmkr k).symm
  have e2:(CM k d.id==id)=false:=by simpa using (CH hmk k).symm
  have e3:ek id (CM k d.id)=false:=by rw [R6];simpa using h2
  simp only [e1,e2,e3,Bool.or_self]
 refine⟨G',t.killed h _ ?_ ?_ ?_ ?_,gid.2⟩
 ·intro x hx
  rcases List.mem_cons.1 hx with rfl | hx
  ·have hE:=h.store er hmr
   unfold Ck at hE ⊢
   rw [hrow]at hE
   obtain⟨c1,v2,c2,c3⟩:=hE
   refine⟨c1,v2,by rw [gid.2, ←hidr];exact c2,?_⟩
   rcases c3 with ⟨p,c3,c4,c5⟩ | ⟨b',cap,cur,e1,e2,e3,e4,e5,e6,e7⟩
   ·exact .inl ⟨p,c3,c4,by rw [gid.1, ←hidr];exact c5⟩
   ·exact .inr ⟨b',cap,cur,e1,by rw [gid.1, ←hidr];exact e2,e3,e4,e5,e6,AE.mono t.keeps _ _ _ (hno _ hpc) (fun _=>rfl) e7⟩
  ·simp only [List.mem_map,List.mem_filter,Bool.and_eq_true,bne_iff_ne]at hx
   obtain⟨y,⟨hy,h1,h2⟩,rfl⟩:=hx
   exact t.ent h hy (hp y hy h1 h2).1 rfl
 ·intro x hx
  rcases List.mem_cons.1 hx with rfl | hx
  ·refine⟨hmk,fun _=>⟨rfl,rfl,fun k E2 n2 len2 cs2 hk=>?_⟩⟩
   have:=List.all_eq_true.1 hn _ (List.mem_of_getElem? hk)
   cases this
  ·simp only [List.mem_map,List.mem_filter,Bool.and_eq_true,bne_iff_ne]at hx
   obtain⟨y,⟨hy,h1,h2⟩,rfl⟩:=hx
   exact t.deep h hy (hp y hy h1 h2).1 rfl (hp y hy h1 h2).2
 ·intro x hx
  rcases List.mem_cons.1 hx with rfl | hx
  ·exact fun _=>hpc
  ·simp only [List.mem_map,List.mem_filter]at hx
   obtain⟨y,⟨hy,_⟩,rfl⟩:=hx
   exact jJ (h.pures y hy)
 ·rw [List.map_cons]
  refine List.nodup_cons.2 ⟨?_,?_⟩
  ·simp only [List.map_map,List.mem_map,List.mem_filter,Function.comp,AY.killP_id,not_exists,not_and,Bool.and_eq_true,bne_iff_ne]
   intro x hx q
   exact hx.2.2 q
  ·simp only [List.map_map,Function.comp_def,AY.killP_id]
   exact List.Sublist.nodup (List.Sublist.map (fun d:AY=>d.id) List.filter_sublist) h.nodup
theorem pY (h:R F st a w G) (id:AC) (nb:Option Nat) (nv:Option Value) (ho:PR w w') (hs:w.heap.size≤w'.heap.size) (hblk: ∀ b,b<w.heap.size→(G.blk id ≠ some b)→w'.heap[b]? =w.heap[b]?)
 (hext: ∀ b,b<F.w0.heap.size→ ¬F.old b→w'.heap[b]? =w.heap[b]?)
 (hn: ∀ b,nb=some b→(w.heap.size≤b∨(G.blk id=some b∧DG w w' b))∧b<w'.heap.size):Turn F (· ==id) (· ==id) G (Ep F G id nb nv) w w' where
 agree:=fun i hi=>by
  have:i ≠ id:=by simpa using hi
  simp [Ep,this]
 same:=fun i b hi hb=>hblk b (h.lt i b hb) (fun q=>by
  have:=h.inj i id b hb q
  rw [this]at hi;simp at hi)
 keeps:=h.keeps id nb nv hs hblk (fun b hb=>(hn b hb).1)
 outer:=ho
 ext:=hext
 wr:=fun b=>Iff.rfl
 inj:=by
  intro i j b hi hj
  simp only [Ep]at hi hj
  split at hi<;>split at hj
  ·simp_all
  ·rename_i q1 q2
   rcases (hn b hi).1 with q | q
   ·exact absurd (h.lt j b hj) (by omega)
   ·exact absurd (h.inj j id b hj q.1) q2
  ·rename_i q1 q2
   rcases (hn b hj).1 with q | q
   ·exact absurd (h.lt i b hi) (by omega)
   ·exact absurd (h.inj i id b hi q.1) q1
  ·exact h.inj i j b hi hj
 lt:=by
  intro i b hi
  simp only [Ep]at hi
  split at hi
  ·exact(hn b hi).2
  ·exact Nat.lt_of_lt_of_le (h.lt i b hi) hs
 new:=by
  intro i b hi
  simp only [Ep]at hi
  split at hi
  ·rcases (hn b hi).1 with q | q
   ·exact .inl (Nat.le_trans h.hsize q)
   ·exact h.new id b q.1
  ·exact h.new i b hi
theorem R.deepAppended (h:R F st a w G) {id:AC} {e:AY} (hl:st.lookD id=some e) {E n len m:Nat} (hrow:e.row=some (E,n,len))
 {v v':Value} {xs us:List Value} {cs:List C} (hob:v.ownBlock=G.blk id) (h1:AG w G e.cs xs) (h2:AG w G cs us) (hxc: ∀ b j u,G.blk id=some b→xs[j]? =some u→w.cell? ⟨b,j,none⟩=some u)
 (hold:w.ownsRow 0 E n v len xs) (hnew:w'.ownsRow 0 E n v' (len+m) (xs++us)) (hg:w.grownBy w' v.ownBlock) (hfr:v'.ownBlock=v.ownBlock∨ ∀ b,v'.ownBlock=some b→w.heap.size≤b)
 (hp:AJ cs=true) (hn:cs.all xc=true):
 R F (st.killP (· ==id) ((st.so.map (AY.killP (· ==id))).map (setE id (some (E,n,len+m)) (e.cs++cs)))) a w' (Ep F G id v'.ownBlock (some v'))∧v'.oneCell'=true:=by
 obtain⟨hm,hid,hd,hmk,hpu,hpe,hi,_⟩:=h.deepRow hl
 have hblk: ∀ b,b<w.heap.size→G.blk id ≠ some b→w'.heap[b]? =w.heap[b]? :=fun b hb hne=>hg.block b hb (by rw [hob];exact fun q=>hne q.symm)
 have hnb: ∀ b,v'.ownBlock=some b→w.heap.size≤b∨(G.blk id=some b∧DG w w' b):=by
  intro b hb
  rcases hfr with q | q
  ·refine .inr ⟨by rw [←hob, ←q];exact hb,?_⟩
   have hb2:v.ownBlock=some b:=by rw [←q];exact hb
   intro cur T fz hc
   rcases hnew.2 with ⟨r,_⟩ | ⟨g,cap,cur',r,_,r2,_⟩
   ·rw [r]at hb;cases hb
   ·rw [r]at hb
    simp only [Value.ownBlock,Option.some.injEq]at hb
    subst hb
    rcases hold.2 with ⟨r3,_⟩ | ⟨g3,cap3,cur3,r3,_,r4,_⟩
    ·rw [r3]at hb2;cases hb2
    ·rw [r3]at hb2
     simp only [Value.ownBlock,Option.some.injEq]at hb2
     subst hb2
     rw [r4]at hc
     injection hc with hc
     injection hc with _ hc _
     subst hc
     exact⟨_,_,r2⟩
  ·exact .inl (q b hb)
 have hlt: ∀ b,v'.ownBlock=some b→b<w'.heap.size:=fun b hb=>(hnew.lt b hb).2
 have hone:v'.oneCell'=true:=by
  rcases hnew.2 with ⟨q,_⟩ | ⟨g,cap,cur,q,_⟩<;>rw [q]<;>rfl
 have t:=pY h id v'.ownBlock (some v') ⟨hg.os,hg.tape,hg.output⟩ hg.size hblk (fun b hb hold2=>by
  refine hblk b (Nat.lt_of_lt_of_le hb h.hsize) (fun q=>?_)
  rcases h.new id b q with q2 | q2
  ·omega
  ·exact hold2 q2) (fun b hb=>⟨hnb b hb,hlt b hb⟩)
 have hpx:AJ (e.cs++cs)=true:=by rw [BN,hpe,hp];rfl
 have hl1:=h1.length
 have hl2:=h2.length
 have hln:=hnew.1
 have hno: ∀ cs:List C,AJ cs=true→Ln (fun i=>Cw i cs=true) G (Ep F G id v'.ownBlock (some v')):=fun cs hp i hi'=>absurd (show Cw i cs=true from hi') (by rw [BP i cs hp];simp)
 have gid:(Ep F G id v'.ownBlock (some v')).blk id=v'.ownBlock∧(Ep F G id v'.ownBlock (some v')).own id=some v':=by simp [Ep]
 have gj: ∀ j,(Ep F G id v'.ownBlock (some v')).blk (CM j id)=G.blk (CM j id)∧(Ep F G id v'.ownBlock (some v')).own (CM j id)=G.own (CM j id):=fun j=>t.agree _ (by simpa using (CH hmk j).symm)
 have hrel:Ck w' (Ep F G id v'.ownBlock (some v')) ⟨id,some (E,n,len+m),e.cs++cs,true⟩:=by
  unfold Ck
  refine⟨by simp at hln ⊢;omega,v',gid.2,?_⟩
  rcases hnew.2 with ⟨q,h0⟩ | ⟨g,cap,cur,q,_,q2,q3,q4,q5,q6⟩
  ·exact .inl ⟨none,q,h0,by rw [gid.1,q];rfl⟩
  ·refine .inr ⟨g,cap,cur,q,by rw [gid.1,q];rfl,q2,q3,q4,q5,?_⟩
   refine AE.of_list (vs:=xs++us) (AG.mono t.keeps _ _ (hno _ hpx) (h1.append h2)) ?_
   exact CN q2 (rest:=cur.toList.drop ((len+m)*n)) (by rw [←q6,List.take_append_drop])
 have hin:GV w' (Ep F G id v'.ownBlock (some v')) ⟨id,some (E,n,len+m),e.cs++cs,true⟩:=by
  intro j E2 n2 len2 cs2 hj
  simp only at hj
  have hj2:e.cs[j]? =some (.isl E2 n2 len2 cs2):=by
   by_cases q:j<e.cs.length
   ·rwa [List.getElem?_append_left q]at hj
   ·rw [List.getElem?_append_right (by omega)]at hj
    have:=List.all_eq_true.1 hn _ (List.mem_of_getElem? hj)
    cases this
  have hjl:j<e.cs.length:=(List.getElem?_eq_some_iff.1 hj2).1
  obtain⟨k1,k2,b2,v2,k3,k4,k5⟩:=h.inner hl hj2
  have hxj:xs[j]? =some v2:=by
   have hjx:j<xs.length:=by omega
   have:=hxc b2 j xs[j] k3 (List.getElem?_eq_getElem hjx)
   rw [k4]at this
   rw [List.getElem?_eq_getElem hjx,this]
  refine⟨k1,Ds t.keeps (hno _ k1) (gj j) (fun b hb=>hblk b (h.lt _ b hb) (fun q=>CH hmk j (h.inj _ _ b q hb))) k2,?_⟩
  rcases hnew.2 with ⟨q,h0⟩ | ⟨g,cap,cur,q,_,q2,q3,q4,q5,q6⟩
  ·have:n=n:=rfl
   rw [h0]at hln
   simp at hln
   have:xs=[]:=hln.1
   rw [this]at hxj;simp at hxj
  ·refine⟨g,v2,by rw [gid.1,q];rfl,?_,by rw [(gj j).2];exact k5⟩
   have hr:=CN q2 (us:=xs++us) (rest:=cur.toList.drop ((len+m)*n)) (by rw [←q6,List.take_append_drop])
   have:=hr j v2 (by rw [List.getElem?_append_left (by omega)];exact hxj)
   simpa using this
 have hents:=t.ents h hl (fun _=>true) (fun d hd' _ hne'=>⟨by simpa using hne',by simpa using hne',fun _ k=>⟨by simpa using (CH hmk k).symm,by simpa using (CH hmk k).symm⟩⟩) rfl hrel hin hpx
 rw [L8]at hents
 exact⟨t.killed h _ hents.1 hents.2.1 hents.2.2.1 hents.2.2.2,hone⟩
def N7:C→C
 | .isl _ _ len cs=> .sl len cs
 | c=>c
def pF (id i:AC):Bool:=i==id||ek id i
def Wn (id:AC) (len:Nat) (cells:List C):C→C
 | .osl i=>match i==id with
   | true=> .sl len cells
   | false=>HC (pF id) (.osl i)
 | c=>HC (pF id) c
def jK (id:AC) (len:Nat) (cells:List C):V→V
 | .c x=> .c (Wn id len cells x)
 | .agg cs=> .agg (cs.map (Wn id len cells))
 | v=>L7 (pF id) v
def AY.frD (id:AC) (len:Nat) (cells:List C) (e:AY):AY:=match e with
 | ⟨i,r,cs,true⟩=>⟨i,r,cs,true⟩
 | ⟨i,r,cs,false⟩=>⟨i,r,cs.map (Wn id len cells),false⟩
def St.frD (st:St) (id:AC) (len:Nat) (cells:List C):St:={tm:=st.tm.map (jK id len cells),so:=(st.so.filter (fun d=>d.id != id)).map (AY.frD id len cells),gh:=st.gh.map (jK id len cells),pre:=st.pre}
theorem sU {id:AC} {len:Nat} {cells:List C} {c:C} (h: ∀ i,c= .osl i→i ≠ id):Wn id len cells c=HC (pF id) c:=by
 cases c<;>simp only [Wn]
 rename_i i
 rw [show (i==id)=false by simpa using h i rfl]
theorem sV {id:AC} {len:Nat} {cells:List C}:Wn id len cells (.osl id)= .sl len cells:=by simp only [Wn,beq_self_eq_true]
theorem Wo {id:AC} {len:Nat} {cells:List C} (hk:Fv G G' w w') (ha: ∀ i,pF id i=false→G'.blk i=G.blk i∧G'.own i=G.own i) (ho: ∀ v,G.own id=some v→As w' G' (.sl len cells) v) {c:C} {v:Value} (h:As w G c v):As w' G' (Wn id len cells c) v:=by
 by_cases hc:c= .osl id
 ·subst hc
  rw [sV]
  simp only [As]at h
  exact ho v h.1
 ·rw [sU (fun i q hi=>hc (by rw [q,hi]))]
  exact As.mono hk _ _ (fun i hi=>ha i (jH hi)) (jI h)
theorem fc {id:AC} {len:Nat} {cells:List C} (hk:Fv G G' w w') (ha: ∀ i,pF id i=false→G'.blk i=G.blk i∧G'.own i=G.own i) (ho: ∀ v,G.own id=some v→As w' G' (.sl len cells) v): ∀ {cs:List C} {vs:List Value},AG w G cs vs→AG w' G' (cs.map (Wn id len cells)) vs
 | [],[],_=>by simp [AG]
 | [],_::_,h=>by simp [AG]at h
 | _::_,[],h=>by simp [AG]at h
 | c::cs,v::vs,h=>by
   simp only [AG,List.map_cons]at h ⊢
   exact⟨Wo hk ha ho h.1,fc hk ha ho h.2⟩
theorem fd {id:AC} {len:Nat} {cells:List C} (hk:Fv G G' w w') (ha: ∀ i,pF id i=false→G'.blk i=G.blk i∧G'.own i=G.own i) (ho: ∀ v,G.own id=some v→As w' G' (.sl len cells) v) {x:V} {v:Value} (h:Am w G x v):Am w' G' (jK id len cells x) v:=by
 cases x with
 | c x=>simp only [jK,Am]at h ⊢;exact Wo hk ha ho h
 | agg cs=>
   simp only [jK,Am]at h ⊢
   obtain⟨arr,e,h⟩:=h
   exact⟨arr,e,fc hk ha ho h⟩
 | tup vs=>exact Am.mono hk _ _ (fun i hi=>ha i (O1 hi)) (O2 h)
 | g b x=>exact Am.mono hk _ _ (fun i hi=>ha i (O1 hi)) (O2 h)
 | undef=>exact Am.mono hk _ _ (fun i hi=>ha i (O1 hi)) (O2 h)
theorem ZK {id:AC} {len:Nat} {cells:List C} (hk:Fv G G' w w') (ha: ∀ i,pF id i=false→G'.blk i=G.blk i∧G'.own i=G.own i) (ho: ∀ v,G.own id=some v→As w' G' (.sl len cells) v): ∀ {xs:List V} {vs:List Value},AO w G xs vs→AO w' G' (xs.map (jK id len cells)) vs
 | [],vs,h=>by simpa [AO] using h
 | x::xs,vs,h=>by
   simp only [AO,List.map_cons]at h ⊢
   obtain⟨v,r,e,h1,h2⟩:=h
   exact⟨v,r,e,fd hk ha ho h1,ZK hk ha ho h2⟩
theorem O3 {id:AC} {len:Nat} {cells:List C} (hk:Fv G G' w w') (ha: ∀ i,pF id i=false→G'.blk i=G.blk i∧G'.own i=G.own i) (ho: ∀ v,G.own id=some v→As w' G' (.sl len cells) v): ∀ {cs:List C} {b o:Nat},(∀ o,w'.cell? ⟨b,o,none⟩=w.cell? ⟨b,o,none⟩)→AE w G cs b o→AE w' G' (cs.map (Wn id len cells)) b o
 | [],_,_,_,_=>by simp only [List.map_nil,AE]
 | c::cs,b,o,hc,h=>by
   simp only [AE,List.map_cons]at h ⊢
   obtain⟨⟨v,h1,h2⟩,h3⟩:=h
   exact⟨⟨v,by rw [hc];exact h1,Wo hk ha ho h2⟩,O3 hk ha ho hc h3⟩
theorem xh {f:C→C}: ∀ {cs:List C} {b o:Nat},(∀ k c,cs[k]? =some c→ ∃ v,w.cell? ⟨b,o+k,none⟩=some v∧As w G (f c) v)→AE w G (cs.map f) b o
 | [],_,_,_=>by simp only [List.map_nil,AE]
 | c::cs,b,o,h=>by
   simp only [AE,List.map_cons]
   refine⟨by simpa using h 0 c (by simp),xh (fun k c' hc=>?_)⟩
   have:=h (k+1) c' (by simpa using hc)
   rw [show o+1+k=o+(k+1) by omega];exact this
theorem R.freezeD (h:R F st a w G) {id:AC} {e:AY} (hl:st.lookD id=some e) {E:TypeId} {n len:Nat} (hrow:e.row=some (E,n,len)) {cells:List C} (hcs:e.cs.map N7=cells): ∃ G',R F (st.frD id len cells) a w G':=by
 subst hcs
 obtain⟨hm,hid,hd,hmk,hpu,hpe,hi,_⟩:=h.deepRow hl
 let G':Bp:=⟨fun i=>if pF id i=true then none else G.blk i,fun i=>if pF id i=true then none else G.own i,fun b=>F.av b∨ ∃ i,(if pF id i=true then none else G.blk i)=some b⟩
 have hag: ∀ i,pF id i=false→G'.blk i=G.blk i∧G'.own i=G.own i:=fun i hpi=>⟨by simp [G',hpi],by simp [G',hpi]⟩
 have t:Turn F (pF id) (fun _=>false) G G' w w:=Kt h G' rfl hag (fun i b hib=>by
  simp only [G']at hib
  split at hib
  ·cases hib
  ·exact⟨i,hib⟩) (fun i j b hib hjb=>by
  simp only [G']at hib hjb
  split at hib
  ·cases hib
  ·split at hjb
   ·cases hjb
   ·exact h.inj _ _ b hib hjb)
 have hno: ∀ cs:List C,AJ cs=true→Ln (fun i=>Cw i cs=true) G G':=fun cs hp i hi'=>absurd (show Cw i cs=true from hi') (by rw [BP i cs hp];simp)
 have hnw: ∀ i b,pF id i=true→G.blk i=some b→ ¬G'.wr b:=by
  intro i b hp hb hw
  simp only [G']at hw
  rcases hw with q | ⟨j,q⟩
  ·rcases h.new i b hb with q2 | q2
   ·have:=h.avlt b q;omega
   ·exact h.avold b q2 q
  ·split at q
   ·cases q
   ·rename_i hj;exact hj (by rw [h.inj j i b q hb];exact hp)
 have hpid:pF id id=true:=by simp [pF]
 have hpmk: ∀ k,pF id (CM k id)=true:=fun k=>by simp [pF,R6]
 have hcell: ∀ (b:Nat),G.blk id=some b→ ∀ k c,e.cs[k]? =some c→ ∀ v,w.cell? ⟨b,k,none⟩=some v→As w G c v→(N7 c).pure =true∧As w G' (N7 c) v:=by
  intro b hb k c hk v hv hr
  have hpc:c.pure=true:=by
   rw [CS,List.all_eq_true]at hpe
   exact hpe c (List.mem_of_getElem? hk)
  by_cases hc: ∃ E n l cs,c= .isl E n l cs
  ·obtain⟨E2,n2,l2,cs2,rfl⟩:=hc
   obtain⟨k1,k2,b2,v2,k3,k4,k5⟩:=h.inner hl hk
   rw [hb]at k3;injection k3 with k3;subst k3
   rw [hv]at k4;injection k4 with k4;subst k4
   refine⟨rfl,?_⟩
   simp only [N7,As]
   unfold Ck at k2
   obtain⟨c1,v2,c2,c3⟩:=k2
   rw [show (⟨CM k id,some (E2,n2,l2),cs2,true⟩:AY).id =CM k id from rfl,k5]at c2
   injection c2 with c2;subst c2
   refine⟨k1,?_⟩
   rcases c3 with ⟨p,rfl,rfl,_⟩ | ⟨b',cap,cur,rfl,e2,e3,e4,e5,e6,e7⟩
   ·have:cs2=[]:=by
     cases hq:cs2 with
     | nil=>rfl
     | cons x xs=>rw [hq]at c1;simp at c1
    exact⟨p,0,rfl,Nat.le_refl _,by simp [maxLen],fun _=>this, .inl rfl⟩
   ·refine⟨_,cap,rfl,e4,e5,fun h0=>?_, .inr ⟨b',0,rfl,hnw _ b' (hpmk k) e2,h.lt _ b' e2,AE.mono t.keeps _ _ _ (hno _ k1) (fun _=>rfl) e7⟩⟩
    rw [h0]at c1
    cases hq:cs2 with
    | nil=>rfl
    | cons x xs=>rw [hq]at c1;simp at c1
  ·have:N7 c=c:=by
    cases c<;>first | rfl | exact absurd ⟨_,_,_,_,rfl⟩ hc
   rw [this]
   exact⟨hpc,As.mono t.keeps _ _ (fun i hi'=>absurd (show c.men i=true from hi') (by rw [LS i c hpc];simp)) hr⟩
 have ho: ∀ v,G.own id=some v→As w G' (.sl len (e.cs.map N7)) v:=by
  intro v hv
  have hE:=h.store e hm
  unfold Ck at hE
  rw [hrow]at hE
  obtain⟨c1,v1,c2,c3⟩:=hE
  rw [hid,hv]at c2;injection c2 with c2;subst c2
  rcases c3 with ⟨p,rfl,rfl,c5⟩ | ⟨b,cap,cur,rfl,e2,e3,e4,e5,e6,e7⟩
  ·have:e.cs=[]:=by
    cases hq:e.cs with
    | nil=>rfl
    | cons x xs=>rw [hq]at c1;simp at c1
   rw [this]
   simp only [As]
   exact⟨rfl,p,0,rfl,Nat.le_refl _,by simp [maxLen],fun _=>rfl, .inl trivial⟩
  ·rw [hid]at e2
   obtain⟨vs,r1,r2⟩:=e7.list
   have hl1:=r1.length
   have hat: ∀ k c,e.cs[k]? =some c→ ∃ v,w.cell? ⟨b,k,none⟩=some v∧As w G c v:=by
    intro k c hk
    obtain⟨u,hu,hr⟩:=r1.get k c hk
    exact⟨u,by simpa using r2 k u hu,hr⟩
   have hpall:AJ (e.cs.map N7)=true:=by
    rw [CS,List.all_eq_true]
    intro c hc
    obtain⟨d,hd,rfl⟩:=List.mem_map.1 hc
    obtain⟨k,hk,rfl⟩:=List.mem_iff_getElem.1 hd
    obtain⟨u,q1,q2⟩:=hat k _ (List.getElem?_eq_getElem hk)
    exact(hcell b e2 k _ (List.getElem?_eq_getElem hk) u q1 q2).1
   simp only [As]
   refine⟨hpall,_,cap,rfl,e4,e5,fun h0=>?_, .inr ⟨b,0,rfl,hnw id b hpid e2,h.lt id b e2,xh (fun k c hk=>?_)⟩⟩
   ·rw [h0]at c1
    cases hq:e.cs with
    | nil=>rfl
    | cons x xs=>rw [hq]at c1;simp at c1
   ·obtain⟨u,q1,q2⟩:=hat k c hk
    exact⟨u,by simpa using q1,(hcell b e2 k c hk u q1 q2).2⟩
 have hfid: ∀ d:AY,(d.frD id len (e.cs.map N7)).id =d.id:=fun d=>by obtain⟨i,r,cs,_ | _⟩:=d<;>rfl
 have hpn: ∀ d∈st.so,d.id ≠ id→pF id d.id=false∧(Lo d.id=true→ ∀ k,pF id (CM k d.id)=false):=by
  intro d hd' h2
  refine⟨?_,fun _ k=>?_⟩
  ·unfold pF
   rw [show (d.id==id)=false by simpa using h2,Bool.false_or]
   cases hq:ek id d.id with
   | false=>rfl
   | true=>
     have:=Wm hq
     rw [(h.deep d hd').1]at this;cases this
  ·unfold pF
   rw [show (CM k d.id==id)=false by simpa using (CH hmk k).symm,Bool.false_or,R6]
   simpa using h2
 refine⟨G',t.rel h _ (by simp [St.frD]) (fun i=>?_) ?_ ?_ ?_ ?_ ?_⟩
 ·simp only [St.frD]
  rw [TO (by simp [jK,L7,V.menP])]
  exact fd t.keeps hag ho (h.slots i)
 ·exact ZK t.keeps hag ho h.ghosts
 ·intro x hx
  simp only [St.frD,List.mem_map,List.mem_filter,bne_iff_ne]at hx
  obtain⟨d,⟨hd',hne⟩,rfl⟩:=hx
  have hE:=h.store d hd'
  have hgd:=hag d.id (hpn d hd' hne).1
  have hpd:=h.pures d hd'
  obtain⟨i,r,ds,pu⟩:=d
  cases pu with
  | true=>exact Ds t.keeps (hno _ (hpd rfl)) hgd (fun _ _=>rfl) hE
  | false=>
    unfold Ck at hE ⊢
    cases r with
    | none=>
      obtain⟨b,h1,h2⟩:=hE
      refine⟨b,by rw [show (AY.frD id len (e.cs.map N7) ⟨i,none,ds,false⟩).id =i from rfl,hgd.1];exact h1,?_⟩
      rcases h2 with ⟨kv,es,h2,h3⟩ | ⟨T,cur,h2,h3,h4⟩
      ·dsimp only [AY.frD]at h2 ⊢
       rw [h2]
       exact .inl ⟨kv,es,by simp [Wn,HC,C.menP],h3⟩
      ·exact .inr ⟨T,cur,h2,by simpa [AY.frD] using h3,O3 t.keeps hag ho (fun _=>rfl) h4⟩
    | some q=>
      obtain⟨E',n',len'⟩:=q
      obtain⟨hl',v,h1,h2⟩:=hE
      refine⟨by simpa [AY.frD] using hl',v,by rw [show (AY.frD id len (e.cs.map N7) ⟨i,some (E',n',len'),ds,false⟩).id =i from rfl,hgd.2];exact h1,?_⟩
      rcases h2 with ⟨p,e1,e2,e3⟩ | ⟨b,cap,cur,e1,e2,e3,e4,e5,e6,e7⟩
      ·exact .inl ⟨p,e1,e2,by rw [show (AY.frD id len (e.cs.map N7) ⟨i,some (E',n',len'),ds,false⟩).id =i from rfl,hgd.1];exact e3⟩
      ·exact .inr ⟨b,cap,cur,e1,by rw [show (AY.frD id len (e.cs.map N7) ⟨i,some (E',n',len'),ds,false⟩).id =i from rfl,hgd.1];exact e2,e3,e4,e5,e6,O3 t.keeps hag ho (fun _=>rfl) e7⟩
 ·intro x hx
  simp only [St.frD,List.mem_map,List.mem_filter,bne_iff_ne]at hx
  obtain⟨d,⟨hd',hne⟩,rfl⟩:=hx
  have hD:=h.deep d hd'
  have hD2:DA w G (d.frD id len (e.cs.map N7)):=by
   obtain⟨i,r,cs,pu⟩:=d
   cases pu with
   | true=>exact hD
   | false=>exact⟨hD.1,fun hq=>absurd (hD.2 hq).1 (by simp)⟩
  refine DA.mono t.keeps (by rw [hfid];exact hag _ (hpn d hd' hne).1) (fun hq k=>?_) (fun _ _=>rfl) (fun _ _ _ _=>rfl) hD2
  rw [hfid]at hq ⊢
  exact hag _ ((hpn d hd' hne).2 hq k)
 ·intro x hx
  simp only [St.frD,List.mem_map,List.mem_filter]at hx
  obtain⟨d,⟨hd',_⟩,rfl⟩:=hx
  have:=h.pures d hd'
  obtain⟨i,r,cs,pu⟩:=d
  cases pu with
  | true=>exact this
  | false=>intro hq;cases hq
 ·simp only [St.frD,List.map_map,Function.comp_def,hfid]
  exact List.Sublist.nodup (List.Sublist.map (fun d:AY=>d.id) List.filter_sublist) h.nodup
end
end Go.PL
namespace Go.PL
open Go Go.RowKit
inductive DS where
 | ld (E:TypeId) (n len:Nat) (cs:List C)
 | ix (E:TypeId) (n len:Nat) (cs:List C)
 | rd (E:TypeId) (n len:Nat) (cs:List C) (u:V)
 | ln (E:TypeId) (n len:Nat) (cs:List C)
 | st (E:TypeId) (n len ln:Nat) (cs cells:List C)
 | ps (cells:List C)
 | ab (cells:List C)
 | lx (E:TypeId) (n len:Nat) (cs:List C)
 | nw (t:Option (Nat×List C))
 | bs
 | aa (len:Nat) (cells:List C)
section
variable {F:Fr} {st:St} {a:Act} {w:World} {G:Bp}
theorem R.lookD_of (h:R F st a w G) {e:AY} {id:AC} (he:e∈st.so) (hid:e.id=id) (hd:Lo id=true):st.lookD id=some e:=by
 unfold St.lookD
 cases hf:st.so.find? (fun e=>e.id==id&&Lo e.id)with
 | none=>
   have:=List.find?_eq_none.1 hf e he
   simp [hid,hd]at this
 | some x=>
   have h1:=List.mem_of_find?_eq_some hf
   have h2:=List.find?_some hf
   simp only [Bool.and_eq_true,beq_iff_eq]at h2
   rw [h.uniq h1 he (h2.1.trans hid.symm)]
theorem R.look_of (h:R F st a w G) {e:AY} {id:AC} (he:e∈st.so) (hid:e.id=id) (hd:Lo id=false) (hr:e.row.isSome=true):st.look id=some e:=by
 have hM:e.isM=false:=by
  unfold AY.isM
  cases q:e.row with
  | none=>rw [q]at hr;cases hr
  | some _=>rfl
 unfold St.look
 cases hf:st.so.find? (fun e=>e.id==id&& !(e.isM||Lo e.id))with
 | none=>
   have:=List.find?_eq_none.1 hf e he
   simp [hid,hd,hM]at this
 | some x=>
   have h1:=List.mem_of_find?_eq_some hf
   have h2:=List.find?_some hf
   simp only [Bool.and_eq_true,beq_iff_eq]at h2
   rw [h.uniq h1 he (h2.1.trans hid.symm)]
theorem R.reslot (h:R F st a w G) {d:Nat} {x:V} (hx:Am w G x (a.tmps.getD d Go.undef)):R F (st.put (some d) x) a w G:={
 dfr:=h.dfr
 size:=by simp [St.put,h.size]
 slots:=fun i=>by
  simp only [St.put,List.getD_eq_getElem?_getD,List.getElem?_set]
  by_cases hi:d=i
  ·subst hi
   by_cases hl:d<st.tm.length
   ·rw [if_pos rfl,if_pos hl,Option.getD_some]
    exact hx
   ·rw [if_pos rfl,if_neg hl,Option.getD_none];simp only [Am]
  ·rw [if_neg hi]
   have:=h.slots i
   simpa only [List.getD_eq_getElem?_getD] using this
 ghosts:=h.ghosts,store:=h.store,deep:=h.deep,pures:=h.pures,nodup:=h.nodup
 inj:=h.inj,lt:=h.lt,new:=h.new,wr:=h.wr,avlt:=h.avlt,inv:=h.inv,avold:=h.avold,os:=h.os,tape:=h.tape,output:=h.output,hsize:=h.hsize,ext:=h.ext}
end
section
variable {P:Program} {I:World→Prop} {o:Oper} {st st':St} {K:St→Prop} {F:Fr} {a:Act} {w:World} {G:Bp}
theorem P4 (h:R F st a w G) {x:Operand} (hl:Bb (Bc st true x).1):Am w G (Bc st true x).2 (a.eval x):=by
 obtain⟨h1,h2⟩:=Nz hl
 rw [←h2]
 exact h.arg rfl h1
def yx (P:Program) (st:St) (o:Oper) (E n len:Nat) (cs:List C):Option (List Prop×St):=match o.op with
 | .load T x=>match (Bc st true x).2,Oe P T with
   | .c (.ptr id k),some (ag,n')=>match !ag&&Nat.beq n' 1,st.lookD id with
     | true,some e=>some ((Bc st true x).1++[e.cs[k]? =some (.isl E n len cs)],st.put o.dst (.c (.osl (1000007::k::id))))
     | _,_=>none
   | _,_=>none
 | _=>none
theorem sW {E n len:Nat} {cs:List C} {l:List Prop} (h:yx P st o E n len cs=some (l,st')) (hl:Bb l) (hK:K st'):Yp P I o st K:=by
 unfold yx at h
 split at h
 ·rename_i T x ho
  split at h
  ·rename_i id k ag n' hx ht
   split at h
   ·rename_i e hb he
    simp only [Option.some.injEq,Prod.mk.injEq]at h
    obtain⟨rfl,rfl⟩:=h
    obtain⟨q1,q2,_⟩:=Ak.1 hl
    intro F a w G Q hI hR
    have hxv:=P4 hR q1
    rw [hx]at hxv
    simp only [Am,As]at hxv
    obtain⟨b,hb1,hv⟩:=hxv
    obtain⟨_,hE,b2,v,k3,k4,k5⟩:=hR.inner he q2
    rw [hb1]at k3;injection k3 with k3;subst k3
    simp only [Bool.and_eq_true,Bool.not_eq_true']at hb
    obtain⟨d,i,hu,hd,_⟩:=En ht
    have hone:v.oneCell'=true:=by
     unfold Ck at hE
     obtain⟨_,v2,c2,c3⟩:=hE
     rw [show (⟨CM k id,some (E,n,len),cs,true⟩:AY).id =CM k id from rfl,k5]at c2
     injection c2 with c2;subst c2
     rcases c3 with ⟨p,rfl,_⟩ | ⟨b',cap,cur,rfl,_⟩<;>rfl
    have hrun:(execOp a.eval o).run P w= .ok (.value v) w:=by
     simp [execOp,ho,hv,Jc hu (by rw [hd,hb.1]) k4]
    exact CG hrun ⟨_,G,hK,hR.put (by simp only [Am,As];exact⟨k5,hone⟩)⟩
   ·cases h
  ·cases h
 ·cases h
def yy (P:Program) (st:St) (o:Oper) (E n len:Nat) (cs:List C):Option (List Prop×St):=match o.op with
 | .indexAddr t x y=>match (Bc st true x).2,(Bc st true y).2,Em P t with
   | .c (.osl (m::k::id)), .c (.int _ i),some (_,n')=>match Nat.beq m 1000007&&Nat.beq n' n,st.lookD id with
     | true,some e=>some (((Bc st true x).1++(Bc st true y).1)++[e.cs[k]? =some (.isl E n len cs),0≤i∧i<(len:Int)],st.put o.dst (.c (.ptr (m::k::id) (i.toNat*n'))))
     | _,_=>none
   | _,_,_=>none
 | _=>none
theorem sX {E n len:Nat} {cs:List C} {l:List Prop} (h:yy P st o E n len cs=some (l,st')) (hl:Bb l) (hK:K st'):Yp P I o st K:=by
 unfold yy at h
 split at h
 ·rename_i t x y ho
  split at h
  ·rename_i m k id ki i E' n' hx hy ht
   split at h
   ·rename_i e hb he
    simp only [Option.some.injEq,Prod.mk.injEq]at h
    obtain⟨rfl,rfl⟩:=h
    obtain⟨q1,q2,q3,_⟩:=Ak.1 hl
    obtain⟨q1,q1'⟩:=Ak.1 q1
    intro F a w G Q hI hR
    have hxv:=P4 hR q1
    have hyv:=P4 hR q1'
    rw [hx]at hxv
    rw [hy]at hyv
    simp only [Am,As]at hxv hyv
    simp only [Bool.and_eq_true]at hb
    have hm:=Nat.eq_of_beq_eq_true hb.1
    subst hm
    obtain⟨_,hE,_⟩:=hR.inner he q2
    unfold Ck at hE
    obtain⟨_,v2,c2,c3⟩:=hE
    rw [show (⟨CM k id,some (E,n,len),cs,true⟩:AY).id =CM k id from rfl,show CM k id=1000007::k::id from rfl,hxv.1]at c2
    injection c2 with c2
    rcases c3 with ⟨p,_,c4,_⟩ | ⟨b',cap,cur,c3,e2,_⟩
    ·omega
    ·have hrun:(execOp a.eval o).run P w= .ok (.value (.pointer (some ⟨b',0+i.toNat*n',none⟩))) w:=by
      simp [execOp,ho,hyv,c2,c3,ES ht b' 0 len cap ki i q3.1 q3.2 w]
     exact CG hrun ⟨_,G,hK,hR.put (by simp only [Am,As];exact⟨b',e2,by rw [Nat.zero_add]⟩)⟩
   ·cases h
  ·cases h
 ·cases h
def yz (P:Program) (st:St) (o:Oper) (E n len:Nat) (cs:List C) (u:V):Option (List Prop×St):=match o.op with
 | .load T x=>match (Bc st true x).2,Oe P T with
   | .c (.ptr (m::k::id) off),some (ag,n')=>match Nat.beq m 1000007&&(ag||Nat.blt 0 n'),st.lookD id with
     | true,some e=>some ((Bc st true x).1++[e.cs[k]? =some (.isl E n len cs),off+n'≤cs.length∧toV ag off n' cs=u],st.put o.dst u)
     | _,_=>none
   | _,_=>none
 | _=>none
theorem sY {E n len:Nat} {cs:List C} {u:V} {l:List Prop} (h:yz P st o E n len cs u=some (l,st')) (hl:Bb l) (hK:K st'):Yp P I o st K:=by
 unfold yz at h
 split at h
 ·rename_i T x ho
  split at h
  ·rename_i m k id off ag n' hx ht
   split at h
   ·rename_i e hb he
    simp only [Option.some.injEq,Prod.mk.injEq]at h
    obtain⟨rfl,rfl⟩:=h
    obtain⟨q1,q2,q3,_⟩:=Ak.1 hl
    intro F a w G Q hI hR
    have hxv:=P4 hR q1
    rw [hx]at hxv
    simp only [Am,As]at hxv
    obtain⟨b,hb1,hv⟩:=hxv
    simp only [Bool.and_eq_true,Bool.or_eq_true,Nat.blt_eq]at hb
    have hm:=Nat.eq_of_beq_eq_true hb.1
    subst hm
    obtain⟨_,hE,_⟩:=hR.inner he q2
    obtain⟨cur,T',_,_,hrow⟩:=hE.row (fun q=>by cases q) hb1
    obtain⟨v,r1,r2⟩:=VQ (P:=P) hrow ht q3.1 hb.2
    have hrun:(execOp a.eval o).run P w= .ok (.value v) w:=by
     have:=r2 w (Ft.refl w)
     rw [Nat.zero_add]at this
     simp [execOp,ho,hv,this]
    exact CG hrun ⟨_,G,hK,hR.put (by rw [←q3.2];exact r1)⟩
   ·cases h
  ·cases h
 ·cases h
def yA (P:Program) (st:St) (o:Oper) (E n len:Nat) (cs:List C):Option (List Prop×St):=match o.op with
 | .call c=>match c.callee,c.args.toList,c.argTypes.toList with
   | .builtin .len,[x],[t]=>match (Bc st true x).2 with
     | .c (.osl (m::k::id))=>match Nat.beq m 1000007&&FW P t,st.lookD id with
       | true,some e=>some ((Bc st true x).1++[e.cs[k]? =some (.isl E n len cs)],st.put o.dst (.c (.int .i64 len)))
       | _,_=>none
     | _=>none
   | _,_,_=>none
 | _=>none
theorem sZ {E n len:Nat} {cs:List C} {l:List Prop} (h:yA P st o E n len cs=some (l,st')) (hl:Bb l) (hK:K st'):Yp P I o st K:=by
 unfold yA at h
 split at h
 ·rename_i c ho
  split at h
  ·rename_i x t h1 h2 h3
   split at h
   ·rename_i m k id hx
    split at h
    ·rename_i e hb he
     simp only [Option.some.injEq,Prod.mk.injEq]at h
     obtain⟨rfl,rfl⟩:=h
     obtain⟨q1,q2,_⟩:=Ak.1 hl
     intro F a w G Q hI hR
     have hxv:=P4 hR q1
     rw [hx]at hxv
     simp only [Am,As]at hxv
     simp only [Bool.and_eq_true]at hb
     have hm:=Nat.eq_of_beq_eq_true hb.1
     subst hm
     obtain⟨el,hel⟩:=GW hb.2
     obtain⟨_,hE,_⟩:=hR.inner he q2
     unfold Ck at hE
     obtain⟨_,v2,c2,c3⟩:=hE
     rw [show (⟨CM k id,some (E,n,len),cs,true⟩:AY).id =CM k id from rfl,show CM k id=1000007::k::id from rfl,hxv.1]at c2
     injection c2 with c2
     have hsl: ∃ p cap,a.eval x= .slice p len cap:=by
      rcases c3 with ⟨p,c3,c4,_⟩ | ⟨b',cap,cur,c3,_⟩
      ·exact⟨p,0,by rw [c2,c3,c4]⟩
      ·exact⟨_,cap,by rw [c2,c3]⟩
     obtain⟨p,cap,hsl⟩:=hsl
     have ea:c.args= #[x]:=by apply Array.ext';simpa using h2
     have et:c.argTypes= #[t]:=by apply Array.ext';simpa using h3
     have hrun:(execOp a.eval o).run P w= .ok (.value (.int .i64 len)) w:=by
      simp [execOp,ho,resolve,h1,ea,et,invoke,builtin,Builtin.len_,Sem.run_bind,run_underlying hel,goInt,hsl]
     exact CG hrun ⟨_,G,hK,hR.put (by simp only [Am,As])⟩
    ·cases h
   ·cases h
  ·cases h
 ·cases h
theorem L9 {T:TypeId} {ag:Bool} {n b off:Nat} {T':TypeId} {cur:Array Value} {v:Value} (ht:Oe P T=some (ag,n)) (hh:w.heap[b]? =some (.cells cur T' (0,0))) (hl:v.cells.toList.length=n) (hfit:off+v.cells.toList.length≤cur.size) (hone: ∀ u∈v.cells.toList,u.oneCell'=true):
 (Instr.storeAt T (.pointer (some ⟨b,off,none⟩)) v).run P w= .ok () (w.setRow b (cur.toList.take off++v.cells.toList++cur.toList.drop (off+v.cells.toList.length)).toArray):=by
 obtain⟨d,i,hu,hd,hi,hsz⟩:=En ht
 have hst:=run_storeCells_at P b off T' v.cells.toList 0 cur w hh (by simpa using hfit) hone
 simp only [Nat.add_zero]at hst
 simp [Instr.storeAt,Instr.sureAddr,storeVar,sizeOf,typeInfo,program,Sem.run,hi,Sem.run_bind,hst]
 simp at hl
 omega
theorem O4 {w':World} {K:Act→World→Prop} {Q:Exit→Act→World→Prop} (hr:(execOp a.eval o).run P w= .ok .skip w') (h:K (a.put o.dst Go.undef) w'):o.wp P a w K Q:=by
 unfold Oper.wp Oper.upon;rw [hr];exact h
def fe (len:Nat):Option (TypeId×Nat×Nat)→Option (TypeId×Nat×Nat)
 | some (E,n,_)=>some (E,n,len)
 | none=>none
def yB (P:Program) (st:St) (o:Oper) (E n len ln:Nat) (cs cells:List C):Option (List Prop×St):=match o.op with
 | .store T x y=>match o.dst,(Bc st true x).2,(Bc st true y).2.cells,Oe P T with
   | none, .c (.ptr (m::k::id) off),some xs,some (_,n')=>match Nat.beq m 1000007&&(Nat.beq xs.length n'&&AJ xs),st.lookD id with
     | true,some e=>some (((Bc st true x).1++(Bc st true y).1)++[e.cs[k]? =some (.isl E n len cs),off+n'≤cs.length∧e.cs.set k (.isl E n len (cs.take off++xs++cs.drop (off+xs.length)))=cells,fe ln e.row=e.row],st.setD id (fe ln e.row) cells)
     | _,_=>none
   | _,_,_,_=>none
 | _=>none
theorem s5 {E n len ln:Nat} {cs cells:List C} {l:List Prop} (h:yB P st o E n len ln cs cells=some (l,st')) (hl:Bb l) (hK:K st'):Yp P I o st K:=by
 unfold yB at h
 split at h
 ·rename_i T x y ho
  split at h
  ·rename_i m k id off xs ag n' hdst hx hy ht
   split at h
   ·rename_i e hb he
    simp only [Option.some.injEq,Prod.mk.injEq]at h
    obtain⟨rfl,rfl⟩:=h
    obtain⟨q1,q2,q3,q4,_⟩:=Ak.1 hl
    rw [q4]at hK
    obtain⟨q1,q1'⟩:=Ak.1 q1
    intro F a w G Q hI hR
    have hxv:=P4 hR q1
    have hyv:=P4 hR q1'
    rw [hx]at hxv
    simp only [Am,As]at hxv
    obtain⟨b,hb1,hv⟩:=hxv
    simp only [Bool.and_eq_true]at hb
    have hm:=Nat.eq_of_beq_eq_true hb.1
    have hn:=Nat.eq_of_beq_eq_true hb.2.1
    subst hm
    have hc:=Hy hyv hy
    have hlc:=hc.length
    obtain⟨cur,T',r1,r2,r3⟩:=hR.innerStored he q2 (show G.blk (CM k id)=some b from hb1) (off:=off) hc (by omega) hb.2.2
    rw [q3.2]at r3
    have hs:=L9 (P:=P) ht r1 (by omega) r2 (AG.one hc)
    generalize w.setRow b _=w1 at hs r3
    have hrun:(execOp a.eval o).run P w= .ok .skip w1:=by simp [execOp,ho,hv,hs]
    exact O4 hrun (by rw [hdst];exact⟨_,G,hK,r3⟩)
   ·cases h
  ·cases h
 ·cases h
theorem jL {x:V} {v:Value} (h:Am w G x v):Am w G x.weak v:=by
 cases x with
 | c c=>simp only [V.weak,Am]at h ⊢;exact JG h
 | agg cs=>simp only [V.weak,Am]at h ⊢;obtain⟨arr,e,h⟩:=h;exact⟨arr,e,RY h⟩
 | tup _=>exact h
 | g _ _=>exact h
 | undef=>exact h
def yC (P:Program) (st:St) (o:Oper) (cells:List C):Option (List Prop×St):=match o.op with
 | .store T x y=>match o.dst,(Bc st true x).2,(Bc st true y).2.weak.cells,Oe P T with
   | none, .c (.ptr id off),some xs,some (_,n')=>match (Nat.beq xs.length n'&&AJ xs)&&xs.all xc,st.lookD id with
     | true,some e=>some (((Bc st true x).1++(Bc st true y).1)++[off+n'≤e.cs.length∧e.cs.take off++xs++e.cs.drop (off+xs.length)=cells],st.setD id e.row cells)
     | _,_=>none
   | _,_,_,_=>none
 | _=>none
theorem s7 {cells:List C} {l:List Prop} (h:yC P st o cells=some (l,st')) (hl:Bb l) (hK:K st'):Yp P I o st K:=by
 unfold yC at h
 split at h
 ·rename_i T x y ho
  split at h
  ·rename_i id off xs ag n' hdst hx hy ht
   split at h
   ·rename_i e hb he
    simp only [Option.some.injEq,Prod.mk.injEq]at h
    obtain⟨rfl,rfl⟩:=h
    obtain⟨q1,q2,_⟩:=Ak.1 hl
    obtain⟨q1,q1'⟩:=Ak.1 q1
    intro F a w G Q hI hR
    have hxv:=P4 hR q1
    have hyv:=jL (P4 hR q1')
    rw [hx]at hxv
    simp only [Am,As]at hxv
    obtain⟨b,hb1,hv⟩:=hxv
    simp only [Bool.and_eq_true]at hb
    have hn:=Nat.eq_of_beq_eq_true hb.1.1
    have hc:=Hy hyv hy
    have hlc:=hc.length
    obtain⟨cur,T',r1,r2,r3⟩:=hR.deepStored he hb1 (off:=off) hc (by omega) hb.1.2 hb.2
    rw [q2.2]at r3
    have hs:=L9 (P:=P) ht r1 (by omega) r2 (AG.one hc)
    generalize w.setRow b _=w1 at hs r3
    have hrun:(execOp a.eval o).run P w= .ok .skip w1:=by simp [execOp,ho,hv,hs]
    exact O4 hrun (by rw [hdst];exact⟨_,G,hK,r3⟩)
   ·cases h
  ·cases h
 ·cases h
theorem og {id:AC} {row:Option (TypeId×Nat×Nat)} {c1 c2:List C} {p:AC→Bool} (x:AY):setE id row c2 ((setE id row c1 x).killP p)=setE id row c2 (x.killP p):=by
 by_cases h:x.id=id
 ·rw [P2 h,P2 (by rw [AY.killP_id];exact h),P2 (by rw [AY.killP_id];exact h)]
  simp only [AY.killP_id,AY.killP_pu]
 ·rw [bX h]
def yD (P:Program) (st:St) (o:Oper) (cells:List C):Option (List Prop×St):=match o.op with
 | .store T x y=>match o.dst,(Bc st true x).2,(Bc st true y).2,Oe P T with
   | none, .c (.ptr id k), .c (.osl r),some (ag,n')=>match !ag&&Nat.beq n' 1,st.lookD id,st.look r with
     | true,some e,some er=>match er.row,er.pu with
       | some (E,n,len),true=>some (((Bc st true x).1++(Bc st true y).1)++[k<e.cs.length∧e.cs.set k (.isl E n len er.cs)=cells],st.killP (pD r id) (((st.so.filter (fun d=>d.id != r)).map (AY.killP (pD r id))).map (setE id e.row cells)))
       | _,_=>none
     | _,_,_=>none
   | _,_,_,_=>none
 | _=>none
theorem s8 {cells:List C} {l:List Prop} (h:yD P st o cells=some (l,st')) (hl:Bb l) (hK:K st'):Yp P I o st K:=by
 unfold yD at h
 split at h
 ·rename_i T x y ho
  split at h
  ·rename_i id k r ag n' hdst hx hy ht
   split at h
   ·rename_i e er hb he her
    split at h
    ·rename_i E n len hrow hpu
     simp only [Option.some.injEq,Prod.mk.injEq]at h
     obtain⟨rfl,rfl⟩:=h
     obtain⟨q1,q2,_⟩:=Ak.1 hl
     obtain⟨q1,q1'⟩:=Ak.1 q1
     intro F a w G Q hI hR
     have hxv:=P4 hR q1
     have hyv:=P4 hR q1'
     rw [hx]at hxv
     rw [hy]at hyv
     simp only [Am,As]at hxv hyv
     obtain⟨b,hb1,hv⟩:=hxv
     simp only [Bool.and_eq_true,Bool.not_eq_true']at hb
     have hn:=Nat.eq_of_beq_eq_true hb.2
     have hcl:(a.eval y).cells.toList =[a.eval y]:=by
      have:=hyv.2
      cases hq:a.eval y<;>rw [hq]at this<;>first | rfl | cases this
     have hc:AG w G [C.any] (a.eval y).cells.toList :=by rw [hcl];simp only [AG,As];exact⟨hyv.2,trivial⟩
     obtain⟨cur,T',r1,r2,r3⟩:=hR.deepStored he hb1 (off:=k) hc (by simp;omega) rfl rfl
     have hs:=L9 (P:=P) ht r1 (by rw [hcl];simp;omega) r2 (AG.one hc)
     have hcell:(w.setRow b (cur.toList.take k++(a.eval y).cells.toList ++cur.toList.drop (k+(a.eval y).cells.toList.length)).toArray).cell? ⟨b,k,none⟩=some (a.eval y):=by
      have:=setRow_heap w b cur (cur.toList.take k++(a.eval y).cells.toList ++cur.toList.drop (k+(a.eval y).cells.toList.length)).toArray T' (0,0) r1
      simp only [World.cell?,this]
      have hkl:(cur.toList.take k).length =k:=by rw [List.length_take];simp;rw [hcl]at r2;simp at r2;omega
      have:(cur.toList.take k++(a.eval y).cells.toList ++cur.toList.drop (k+(a.eval y).cells.toList.length))[k]? =some (a.eval y):=by
       rw [List.append_assoc,List.getElem?_append_right (by omega),hkl,hcl]
       simp
      simpa using this
     generalize w.setRow b _=w1 at hs r3 hcell
     have hrun:(execOp a.eval o).run P w= .ok .skip w1:=by simp [execOp,ho,hv,hs]
     obtain⟨hm,hid,hd⟩:=ZJ he
     obtain⟨hmr,hidr⟩:=Ct her
     have hndr:=PM her
     have hrid:r ≠ id:=fun q=>by rw [q,hd]at hndr;cases hndr
     have hD:(st.setD id e.row (e.cs.take k++[C.any]++e.cs.drop (k+[C.any].length))).lookD id=some ⟨id,e.row,e.cs.take k++[C.any]++e.cs.drop (k+[C.any].length),e.pu⟩:=by
      refine r3.lookD_of ?_ rfl hd
      simp only [St.setD,List.mem_map]
      exact⟨e,hm,by rw [P2 hid,hid]⟩
     have hL:(st.setD id e.row (e.cs.take k++[C.any]++e.cs.drop (k+[C.any].length))).look r=some er:=by
      refine r3.look_of ?_ hidr hndr (by rw [hrow];rfl)
      simp only [St.setD,List.mem_map]
      exact⟨er,hmr,bX (by rw [hidr];exact hrid)⟩
     have hk':k<(⟨id,e.row,e.cs.take k++[C.any]++e.cs.drop (k+[C.any].length),e.pu⟩:AY).cs.length :=by simp;omega
     obtain⟨G',g1,_⟩:=r3.absorb hD hL hrow hpu hb1 hcell hyv.1 hk'
     suffices hfin:R F (st.killP (pD r id) (((st.so.filter (fun d=>d.id != r)).map (AY.killP (pD r id))).map (setE id e.row cells))) a w1 G' from O4 hrun (by rw [hdst];exact⟨_,G',hK,hfin⟩)
     have e1:(e.cs.take k++[C.any]++e.cs.drop (k+[C.any].length)).set k (.isl E n len er.cs)=cells:=by
      rw [←q2.2]
      apply List.ext_getElem?
      intro j
      simp only [List.getElem?_set]
      by_cases hj:k=j
      ·subst hj
       simp only [if_true]
       rw [if_pos (by simp;omega),if_pos q2.1]
      ·rw [if_neg hj,if_neg hj,List.append_assoc]
       have htl:(e.cs.take k).length =k:=by rw [List.length_take];omega
       by_cases hjk:j<k
       ·rw [List.getElem?_append_left (by omega),List.getElem?_take,if_pos hjk]
       ·rw [List.getElem?_append_right (by omega),htl,List.getElem?_append_right (by simp;omega),List.getElem?_drop]
        congr 1
        simp
        omega
     have e2:(((st.setD id e.row (e.cs.take k++[C.any]++e.cs.drop (k+[C.any].length))).so.filter (fun d=>d.id != r)).map (AY.killP (pD r id))).map (setE id e.row cells)=((st.so.filter (fun d=>d.id != r)).map (AY.killP (pD r id))).map (setE id e.row cells):=by
      simp only [St.setD]
      rw [List.filter_map]
      simp only [List.map_map]
      have:(fun d:AY=>d.id != r) ∘ setE id e.row (e.cs.take k++[C.any]++e.cs.drop (k+[C.any].length))=fun d=>d.id != r:=by
       funext d;simp [mL]
      rw [this]
      apply List.map_congr_left
      intro d _
      exact og d
     rw [e1]at g1
     have e3: ∀ so,(st.setD id e.row (e.cs.take k++[C.any]++e.cs.drop (k+[C.any].length))).killP (pD r id) so=st.killP (pD r id) so:=fun so=>rfl
     rw [show (⟨id,e.row,e.cs.take k++[C.any]++e.cs.drop (k+[C.any].length),e.pu⟩:AY).row =e.row from rfl,e2,e3]at g1
     exact g1
    ·cases h
   ·cases h
  ·cases h
 ·cases h
def yE (P:Program) (st:St) (o:Oper) (E n len:Nat) (cs:List C):Option (List Prop×St):=match o.op with
 | .load T x=>match o.dst,(Bc st true x).2,Oe P T with
   | some d, .c (.ptr id k),some (ag,n')=>match (!ag&&Nat.beq n' 1)&&(!Fs (d::st.pre)&& !Lo (d::st.pre)),st.lookD id with
     | true,some e=>some ((Bc st true x).1++[e.cs[k]? =some (.isl E n len cs)],
      (st.killP (pD (d::st.pre) id) (⟨d::st.pre,some (E,n,len),cs,true⟩::((st.so.filter (fun x=>x.id != d::st.pre)).map (AY.killP (pD (d::st.pre) id))).map (setE id e.row (e.cs.set k .any)))).put (some d) (.c (.osl (d::st.pre))))
     | _,_=>none
   | _,_,_=>none
 | _=>none
theorem ta {E n len:Nat} {cs:List C} {l:List Prop} (h:yE P st o E n len cs=some (l,st')) (hl:Bb l) (hK:K st'):Yp P I o st K:=by
 unfold yE at h
 split at h
 ·rename_i T x ho
  split at h
  ·rename_i d id k ag n' hdst hx ht
   split at h
   ·rename_i e hb he
    simp only [Option.some.injEq,Prod.mk.injEq]at h
    obtain⟨rfl,rfl⟩:=h
    obtain⟨q1,q2,_⟩:=Ak.1 hl
    intro F a w G Q hI hR
    have hxv:=P4 hR q1
    rw [hx]at hxv
    simp only [Am,As]at hxv
    obtain⟨b,hb1,hv⟩:=hxv
    simp only [Bool.and_eq_true,Bool.not_eq_true']at hb
    obtain⟨G',g1,b2,v,g2,g3,g4,g5⟩:=hR.extract he q2 (r:=d::st.pre) hb.2.1 hb.2.2
    rw [hb1]at g2;injection g2 with g2;subst g2
    obtain⟨dd,i,hu,hd,_⟩:=En ht
    have hrun:(execOp a.eval o).run P w= .ok (.value v) w:=by
     simp [execOp,ho,hv,Jc hu (by rw [hd,hb.1.1]) g3]
    refine CG hrun ⟨_,G',hK,?_⟩
    rw [hdst]
    exact R.put (d:=some d) g1 (show Am w G' (V.c (C.osl (d::st.pre))) v by simp only [Am,As];exact⟨g4,g5⟩)
   ·cases h
  ·cases h
 ·cases h
def yF (P:Program) (st:St) (o:Oper) (ln:Nat) (cells:List C):Option (List Prop×St):=match o.op with
 | .call c=>match o.dst,c.callee,c.args.toList,c.argTypes.toList with
   | some d, .builtin .append,[u,x],[t,t']=>match (Bc st true u).2,(Bc st true x).2,EC P t with
     | .c (.osl id), .c (.osl q),some (E,n,by')=>match st.lookD id,st.look q with
       | some e,some eq=>match e.row,eq.row,eq.cs with
         | some (E0,n0,len),some (E1,n1,len1),[.osl r]=>match (t==t'&&(E0==E&&n0==n))&&(Nat.beq n 1&&(Nat.beq n1 1&&Nat.beq len1 1)),st.look r with
           | true,some er=>match er.row,er.pu with
             | some (E2,n2,len2),true=>some (((Bc st true u).1++(Bc st true x).1)++[e.cs++[.isl E2 n2 len2 er.cs]=cells,(len+1)*by'≤140737488355328∧len+1≤maxLen,len+1=ln],
              ((st.killP (· ==id) []).killP (pD r id) (((((st.so.map (AY.killP (· ==id))).map (setE id (some (E,n,ln)) (e.cs++[.any]))).filter (fun d=>d.id != r)).map (AY.killP (pD r id))).map (setE id (some (E,n,ln)) cells))).put (some d) (.c (.osl id)))
             | _,_=>none
           | _,_=>none
         | _,_,_=>none
       | _,_=>none
     | _,_,_=>none
   | _,_,_,_=>none
 | _=>none
theorem tb {ln:Nat} {cells:List C} {l:List Prop} (h:yF P st o ln cells=some (l,st')) (hl:Bb l) (hK:K st'):Yp P I o st K:=by
 unfold yF at h
 split at h
 case h_2=>cases h
 rename_i c ho
 split at h
 case h_2=>cases h
 rename_i d u x t t' hdst hcal hargs htys
 split at h
 case h_2=>cases h
 rename_i id q E n by' hu hx hsel
 split at h
 case h_2=>cases h
 rename_i e eq he heq
 split at h
 case h_2=>cases h
 rename_i E0 n0 len E1 n1 len1 r hrow0 hrow1 hcs1
 split at h
 case h_2=>cases h
 rename_i er hb her
 split at h
 case h_2=>cases h
 rename_i E2 n2 len2 hrow hpu
 simp only [Option.some.injEq,Prod.mk.injEq]at h
 obtain⟨rfl,rfl⟩:=h
 obtain⟨q1,q2,q3,q4,_⟩:=Ak.1 hl
 subst q4
 obtain⟨q1,q1'⟩:=Ak.1 q1
 simp only [Bool.and_eq_true,beq_iff_eq]at hb
 obtain⟨⟨rfl,rfl,rfl⟩,hb1,hb2,hb3⟩:=hb
 have hn:=Nat.eq_of_beq_eq_true hb1
 have hn1:=Nat.eq_of_beq_eq_true hb2
 have hl1:=Nat.eq_of_beq_eq_true hb3
 subst hn hn1 hl1
 intro F a w G Q hI hR
 have huv:=P4 hR q1
 have hxv:=P4 hR q1'
 rw [hu]at huv
 rw [hx]at hxv
 simp only [Am,As]at huv hxv
 obtain⟨hm,hid,hd⟩:=ZJ he
 obtain⟨hmq,hidq⟩:=Ct heq
 obtain⟨hmr,hidr⟩:=Ct her
 have hndr:=PM her
 have hrid:r ≠ id:=fun z=>by rw [z,hd]at hndr;cases hndr
 obtain⟨i,z,hty,hi,hz,hsz,hby,hzs⟩:=ID hsel
 have hEq:=hR.store eq hmq
 unfold Ck at hEq
 rw [hrow1,hcs1]at hEq
 obtain⟨_,vq,c2,c3⟩:=hEq
 rw [hidq,hxv.1]at c2
 injection c2 with c2
 rcases c3 with ⟨p,_,c4,_⟩ | ⟨bq,capq,curq,c3,_,_,hcapq,_,_,c7⟩
 ·cases c4
 simp only [AE]at c7
 obtain⟨⟨vr,hcr,hvr⟩,_⟩:=c7
 simp only [As]at hvr
 obtain⟨v,xs,k1,k2,k3,k4⟩:=LW hrow0 (hR.store e hm)
 rw [hid,huv.1]at k1
 injection k1 with k1
 have hus:AG w G [C.any] [vr]:=by simp only [AG,As];exact⟨hvr.2,trivial⟩
 have hnews: ∀ j u',[vr][j]? =some u'→w.cell? ((⟨bq,0,none⟩:Addr).add j)=some u':=by
  intro j u' hj
  cases j with
  | zero=>
    simp only [List.getElem?_cons_zero,Option.some.injEq]at hj
    subst hj
    simpa [Addr.add_mid] using hcr
  | succ j=>simp at hj
 have main: ∀ v0 v' w',(Builtin.append_ #[t,t] o.type #[a.eval u,a.eval x]).run P w= .ok v' w'→v0.ownBlock=G.blk id→(∀ b j u',G.blk id=some b→xs[j]? =some u'→w.cell? ⟨b,j,none⟩=some u')→w.ownsRow 0 E0 1 v0 len xs→w'.ownsRow 0 E0 1 v' (len+1) (xs++[vr])→w.grownBy w' v0.ownBlock→(v'.ownBlock=v0.ownBlock∨ ∀ b,v'.ownBlock=some b→w.heap.size≤b)→o.wp P a w (nU F K) Q:=by
  intro v0 v' w' hrun hob hxc hold hnew hg hfr
  obtain⟨g1,g2⟩:=hR.deepAppended he hrow0 hob k3 hus hxc hold hnew hg hfr rfl rfl
  have hD:=g1.lookD_of (e:=⟨id,some (E0,1,len+1),e.cs++[C.any],e.pu⟩) (id:=id) (by
   simp only [St.killP,List.map_map,List.mem_map,Function.comp]
   exact⟨e,hm,by rw [P2 (by rw [AY.killP_id];exact hid),AY.killP_id,AY.killP_pu,hid]⟩) rfl hd
  have her':er.killP (· ==id)=er:=by
   obtain⟨i1,r1,cs1,pu1⟩:=er
   simp only at hpu;subst hpu;rfl
  have hL:=g1.look_of (e:=er) (id:=r) (by
   simp only [St.killP,List.map_map,List.mem_map,Function.comp]
   exact⟨er,hmr,by rw [her',bX (by rw [hidr];exact hrid)]⟩) hidr hndr (by rw [hrow];rfl)
  have hlx:=k3.length
  obtain⟨g,cap,cur,n1,_,n2',n3,n4,n5,n6⟩: ∃ g cap cur,v'= .slice (some ⟨g,0,none⟩) (len+1) cap∧0≤g∧w'.heap[g]? =some (.cells cur E0 (0,0))∧len+1≤cap∧cap≤maxLen∧cur.size=cap*1∧cur.toList.take ((len+1)*1)=xs++[vr]:=by
   rcases hnew.2 with ⟨_,h0⟩ | h1
   ·omega
   ·exact h1
  have hcell:w'.cell? ⟨g,e.cs.length,none⟩=some vr:=by
   have hrg:=CN n2' (us:=xs++[vr]) (rest:=cur.toList.drop ((len+1)*1)) (by rw [←n6,List.take_append_drop])
   have:=hrg e.cs.length vr (by rw [hlx,List.getElem?_append_right (Nat.le_refl _)];simp)
   simpa using this
  have hblk:(Ep F G id v'.ownBlock (some v')).blk id=some g:=by simp [Ep,n1,Value.ownBlock]
  have howr:(Ep F G id v'.ownBlock (some v')).own r=some vr:=by simp [Ep,hrid];exact hvr.1
  have hk':e.cs.length<(⟨id,some (E0,1,len+1),e.cs++[C.any],e.pu⟩:AY).cs.length :=by simp
  obtain⟨G',g3,g4⟩:=g1.absorb hD hL hrow hpu hblk hcell howr hk'
  have e1:(e.cs++[C.any]).set e.cs.length (.isl E2 n2 len2 er.cs)=cells:=by
   rw [←q2,List.set_append_right _ _ (Nat.le_refl _)]
   simp
  rw [show (⟨id,some (E0,1,len+1),e.cs++[C.any],e.pu⟩:AY).row =some (E0,1,len+1)from rfl,show (⟨id,some (E0,1,len+1),e.cs++[C.any],e.pu⟩:AY).cs =e.cs++[C.any]from rfl,e1]at g3
  have ea:c.args= #[u,x]:=by apply Array.ext';simpa using hargs
  have et:c.argTypes= #[t,t]:=by apply Array.ext';simpa using htys
  have hrun2:(execOp a.eval o).run P w= .ok (.value v') w':=by
   simp [execOp,ho,resolve,hcal,ea,et,invoke,builtin,hrun]
  refine CG hrun2 ⟨_,G',hK,?_⟩
  rw [hdst]
  exact R.put (d:=some d) g3 (show Am w' G' (V.c (C.osl id)) v' by simp only [Am,As];exact⟨by rw [g4];simp [Ep],g2⟩)
 have hbb:(len+1)*by'≤140737488355328:=q3.1
 rcases k4 with ⟨k4,k5⟩ | ⟨p,hvp,h0,hxs,k5⟩
 ·rw [hid]at k5
  have hxc: ∀ b j u',G.blk id=some b→xs[j]? =some u'→w.cell? ⟨b,j,none⟩=some u':=by
   intro b j u' hb' hj
   have:=k4.cells (g:=b) (by rw [k5];exact hb') j u' hj
   simpa [Addr.add_mid] using this
  obtain⟨v',w',hrun,hown,hg,hfr⟩:=Lp (P:=P) (w:=w) t o.type E0 i z 1 by' hty hi hz hsz hby hzs (by omega) v len xs k4 ⟨bq,0,none⟩ 1 capq [vr] (by simp) hnews (AG.one hus) q3.2 hbb
  exact main v v' w' (by rw [k1,c2,c3];exact hrun) k5 hxc k4 hown hg hfr
 ·rw [hid]at k5
  subst h0 hxs
  obtain⟨v',w',hrun,hown,hg,hfr⟩:=Lq (P:=P) (w:=w) t o.type E0 i z 1 by' hty hi hz hsz hby hzs (by omega) p ⟨bq,0,none⟩ 1 capq [vr] (by simp) hnews (by omega) (by omega) (by simpa using hbb)
  exact main (.slice none 0 0) v' w' (by rw [k1,c2,c3,hvp];exact hrun) k5.symm (fun b j u' _ hj=>by simp at hj) ⟨by simp, .inl ⟨rfl,rfl⟩⟩ (by simpa using hown) hg (.inr hfr)
end
end Go.PL
namespace Go.PL
open Go Go.RowKit
inductive Stp where
 | a
 | v (x:V)
 | c (r:V)
 | e (len:Nat) (cs:List C)
 | D (x:DS)
def jM (s:Stp) (len:Nat) (cs:List C) (k:Nat→List C→List Prop→Option (List Prop×St)):Option (List Prop×St):=
 match s with
 | .e len' cs'=>k len' cs' [len=len'∧cs=cs']
 | _=>k len cs []
theorem O5 {s:Stp} {len:Nat} {cs:List C} {k:Nat→List C→List Prop→Option (List Prop×St)} {r:List Prop×St} (h:jM s len cs k=some r):
 ∃ len' cs' l,k len' cs' l=some r∧(Bb l→len=len'∧cs=cs'):=by
 cases s<;>simp only [jM]at h<;>first
  | exact⟨_,_,_,h,fun q=>q.1⟩
  | exact⟨_,_,_,h,fun _=>⟨rfl,rfl⟩⟩
def O6 (id:AC) (len:Nat):List AY→Prop
 | []=>True
 | e::es=>match e.id==id with
   | true=>fe len e.row=e.row∧O6 id len es
   | false=>O6 id len es
def St.setR (st:St) (id:AC) (cs:List C) (q:Bool) (len:Nat):St:={st with so:=st.so.map fun e=>match e.id==id with
 | true=>⟨e.id,fe len e.row,cs,e.pu&&q⟩
 | false=>e}
theorem mM {st:St} {id:AC} {cs:List C} {q:Bool} {len:Nat} (h:O6 id len st.so):st.setR id cs q len=st.setCs id cs q:=by
 have: ∀ l:List AY,O6 id len l→(l.map fun e=>match e.id==id with
  | true=>(⟨e.id,fe len e.row,cs,e.pu&&q⟩:AY)
  | false=>e)=l.map fun e=>if(e.id==id)=true then(⟨e.id,e.row,cs,e.pu&&q⟩:AY)else e:=by
  intro l
  induction l with
  | nil=>intro _;rfl
  | cons e l ih=>
    intro h
    simp only [O6]at h
    simp only [List.map_cons]
    cases hb:e.id==id with
    | true=>rw [hb]at h;simp only at h;rw [ih h.2,h.1];simp
    | false=>rw [hb]at h;simp only at h;rw [ih h];simp
 unfold St.setR St.setCs
 rw [this st.so h]
def jN (P:Program) (st:St) (s:Stp) (d:Option Nat) (T:TypeId) (l:List Prop) (x y:V):Option (List Prop×St):=
 match x,y.cells,Oe P T with
 | .c (.ptr id off),some cs,some (_,n)=>match st.look id with
   | some e=>match s with
     | .e len' cs'=>VB (cs.length==n) (l++[off+n≤e.cs.length∧e.cs.take off++cs++e.cs.drop (off+cs.length)=cs',O6 id len' st.so],(st.setR id cs' (AJ cs) len').put d .undef)
     | _=>VB (cs.length==n&&Nat.ble (off+n) e.cs.length) (l,(st.setCs id (e.cs.take off++cs++e.cs.drop (off+cs.length)) (AJ cs)).put d .undef)
   | none=>none
 | _,_,_=>none
theorem P5 {P:Program} {st st':St} {s:Stp} {d:Option Nat} {T:TypeId} {l l':List Prop} {x y:V} (h:jN P st s d T l x y=some (l',st')) (hl:Bb l'):
 Bb l∧(FB P st T x y).1∧(FB P st T x y).2.put d .undef =st':=by
 unfold jN at h
 unfold FB
 split at h
 ·rename_i id off cs ag n h1 h2
  split at h
  ·rename_i e he
   split at h
   ·rename_i len cs'
    obtain⟨hb,hr⟩:=BI h
    simp only [Prod.mk.injEq]at hr
    obtain⟨rfl,rfl⟩:=hr
    obtain⟨q1,q2,q3,_⟩:=Ak.1 hl
    simp only [h1,h2,he]
    exact⟨q1,⟨by simpa using hb,q2.1⟩,by rw [q2.2,mM q3]⟩
   ·obtain⟨hb,hr⟩:=BI h
    simp only [Prod.mk.injEq]at hr
    obtain⟨rfl,rfl⟩:=hr
    simp only [Bool.and_eq_true,Nat.ble_eq,beq_iff_eq]at hb
    simp only [h1,h2,he]
    exact⟨hl,hb,trivial⟩
  ·cases h
 ·cases h
def vv (st:St) (n:Nat):V→Option (List Prop×Nat×List C×Bool)
 | .c (.sl m cs)=>some ([cs.length=m*n],m,cs,true)
 | .c (.osl id)=>match st.look id with
   | some e=>match e.row with
     | some (_,n',m)=>VB (n'==n) ([],m,e.cs,e.pu)
     | none=>none
   | none=>none
 | _=>none
theorem jO {st:St} {n:Nat} {x:V} {l:List Prop} {r:Nat×List C×Bool} (h:vv st n x=some (l,r)) (hl:Bb l):PU st n x=some r:=by
 unfold vv at h
 unfold PU
 split at h
 ·simp only [Option.some.injEq,Prod.mk.injEq]at h
  obtain⟨rfl,rfl⟩:=h
  exact if_pos hl.1
 ·split at h
  ·rename_i h1
   split at h
   ·rename_i h2
    obtain⟨hb,hr⟩:=BI h
    simp only [Prod.mk.injEq]at hr
    simp only [h1,h2]
    rw [if_pos (by simpa using hb)]
    exact congrArg some hr.2
   ·cases h
  ·cases h
 ·cases h
def bY (P:Program) (st:St) (s:Stp) (d:Nat) (t:TypeId) (l:List Prop) (u x:V):Option (List Prop×St):=
 match u,EC P t with
 | .c (.osl id),some (E,n,by')=>match st.look id,vv st n x with
   | some e,some (l2,m,cs,q)=>match e.row with
     | some (E',n',len)=>match E'==E&&n'==n&&Nat.blt 0 n with
       | true=>jM s (len+m) (e.cs++cs) fun len' cs' l3=>
         some (l++(l2++(l3++[(len+m)*by'≤140737488355328∧len+m≤maxLen])),(st.new ⟨id,some (E,n,len'),cs',e.pu&&q⟩).put (some d) (.c (.osl id)))
       | false=>none
     | none=>none
   | _,_=>none
 | _,_=>none
theorem Yv {P:Program} {st st':St} {s:Stp} {d:Nat} {t:TypeId} {l l':List Prop} {u x:V} (h:bY P st s d t l u x=some (l',st')) (hl:Bb l'):
 Bb l∧(EU P st d t u x).1∧(EU P st d t u x).2=st':=by
 unfold bY at h
 unfold EU
 split at h
 ·rename_i id E n by' h1
  split at h
  ·rename_i e l2 m cs q h2 h3
   split at h
   ·rename_i E' n' len h4
    split at h
    ·rename_i hb
     obtain⟨len',cs',l3,hk,ht⟩:=O5 h
     simp only [Option.some.injEq,Prod.mk.injEq]at hk
     obtain⟨rfl,rfl⟩:=hk
     obtain⟨q1,q2⟩:=Ak.1 hl
     obtain⟨q2,q3⟩:=Ak.1 q2
     obtain⟨q3,q4,_⟩:=Ak.1 q3
     obtain⟨rfl,rfl⟩:=ht q3
     simp only [Bool.and_eq_true,beq_iff_eq,Nat.blt_eq]at hb
     simp only [h1,h2,jO h3 q2,h4]
     exact⟨q1,⟨hb.1.1,hb.1.2,hb.2,q4⟩,trivial⟩
    ·cases h
   ·cases h
  ·cases h
 ·cases h
def pZ (P:Program) (st:St) (s:Stp) (d:Nat) (t:TypeId) (l:List Prop) (x y:V):Option (List Prop×St):=
 match x,y,s with
 | .c (.bsl id off len), .c (.bsl id2 off2 len2), .e len' cs'=>match Em P t with
   | some (_,1)=>match st.look id,st.look id2 with
     | some e,some e2=>VB (Nat.ble (off+Nat.min len2 len) e.cs.length&&Nat.ble (off2+Nat.min len2 len) e2.cs.length) (l++[e.cs.take off++(e2.cs.drop off2).take (Nat.min len2 len)++e.cs.drop (off+((e2.cs.drop off2).take (Nat.min len2 len)).length)=cs',O6 id len' st.so],
      (st.setR id cs' (AJ ((e2.cs.drop off2).take (Nat.min len2 len))) len').put (some d) (.c (.int .i64 (Nat.min len2 len:Nat))))
     | _,_=>none
   | _=>none
 | _,_,_=>none
theorem ff {P:Program} {st st':St} {s:Stp} {d:Nat} {t:TypeId} {l l':List Prop} {x y:V} (h:pZ P st s d t l x y=some (l',st')) (hl:Bb l'):
 Bb l∧(TU P st d t x y).1∧(TU P st d t x y).2=st':=by
 unfold pZ at h
 unfold TU
 split at h
 ·rename_i id off len id2 off2 len2 len' cs'
  split at h
  ·rename_i E h0
   split at h
   ·rename_i e e2 h1 h2
    obtain⟨hb,hr⟩:=BI h
    simp only [Prod.mk.injEq]at hr
    obtain⟨rfl,rfl⟩:=hr
    obtain⟨q1,q2,q3,_⟩:=Ak.1 hl
    simp only [Bool.and_eq_true,Nat.ble_eq]at hb
    simp only [h0,h1,h2]
    exact⟨q1,hb,by rw [q2,mM q3]⟩
   ·cases h
  ·cases h
 ·cases h
def mN (P:Program) (st:St) (s:Stp) (d:Nat) (t:TypeId) (p:List Prop) (l c:V):Option (List Prop×St):=
 match l,c,EC P t with
 | .c (.int _ l), .c (.int _ c),some (E,n,by')=>match LV P E with
   | some z=>match z.length==n&&Nat.blt 0 n with
     | true=>jM s l.toNat (Cg z l.toNat) fun len' cs' l3=>some (p++(l3++[0≤l∧l≤c∧c*by'≤140737488355328∧c≤maxLen]),(st.new ⟨d::st.pre,some (E,n,len'),cs',true⟩).put (some d) (.c (.osl (d::st.pre))))
     | false=>none
   | none=>none
 | _,_,_=>none
theorem fg {P:Program} {st st':St} {s:Stp} {d:Nat} {t:TypeId} {p l':List Prop} {l c:V} (h:mN P st s d t p l c=some (l',st')) (hl:Bb l'):
 Bb p∧(LZ P st d t l c).1∧(LZ P st d t l c).2=st':=by
 unfold mN at h
 unfold LZ
 split at h
 ·rename_i h1
  split at h
  ·rename_i h2
   split at h
   ·rename_i hb
    obtain⟨len',cs',l3,hk,ht⟩:=O5 h
    simp only [Option.some.injEq,Prod.mk.injEq]at hk
    obtain⟨rfl,rfl⟩:=hk
    obtain⟨q1,q2⟩:=Ak.1 hl
    obtain⟨q2,q3,_⟩:=Ak.1 q2
    obtain⟨rfl,rfl⟩:=ht q2
    simp only [Bool.and_eq_true,beq_iff_eq,Nat.blt_eq]at hb
    simp only [h1,h2]
    exact⟨q1,⟨q3.1,q3.2.1,q3.2.2.1,q3.2.2.2,hb.1,hb.2⟩,trivial⟩
   ·cases h
  ·cases h
 ·cases h
def HD (st:St) (g:Bool) (ps:List (Nat×Operand)):List Prop×List (Nat×V):=
 match ps with
 | []=>([],[])
 | (i,x)::r=>((Bc st g x).1++(HD st g r).1,(i,(Bc st g x).2)::(HD st g r).2)
theorem R7 {st:St} {g:Bool}: ∀ {ps:List (Nat×Operand)},Bb (HD st g ps).1→(st.parts g ps).1∧(st.parts g ps).2=(HD st g ps).2
 | [],_=>⟨trivial,rfl⟩
 | (i,x)::r,hl=>by
   obtain⟨h1,h2⟩:=Ak.1 hl
   have a:=Nz (st:=st) (g:=g) (x:=x) h1
   have b:=R7 (st:=st) (g:=g) (ps:=r) h2
   simp only [St.parts,HD]
   exact⟨⟨a.1,b.1⟩,by rw [a.2,b.2]⟩
def td (P:Program) (st:St) (s:Stp) (d:Nat) (t:TypeId) (len:Nat) (ps:List (Nat×Operand)):Option (List Prop×St):=
 match EC P t with
 | some (E,n,_)=>match LV P E with
   | some z=>match Hz (fun i=>some (i*n,n)) (Cg z len) ((HD st true ps).2.map TT)with
     | some cs=>match z.length==n&&Nat.blt 0 n&&Nat.ble (len*n) (2 ^ 24)&&AJ cs with
       | true=>jM s len cs fun len' cs' l3=>some ((HD st true ps).1++l3,(st.new ⟨d::st.pre,some (E,n,len'),cs',true⟩).put (some d) (.c (.osl (d::st.pre))))
       | false=>none
     | none=>none
   | none=>none
 | none=>none
theorem jP {P:Program} {st st':St} {s:Stp} {d:Nat} {t:TypeId} {len:Nat} {ps:List (Nat×Operand)} {l':List Prop} (h:td P st s d t len ps=some (l',st')) (hl:Bb l'):
 (B1 P st d t len ps).1∧(B1 P st d t len ps).2=st':=by
 unfold td at h
 unfold B1
 split at h
 ·rename_i h1
  split at h
  ·rename_i h2
   split at h
   ·rename_i h3
    split at h
    ·rename_i hb
     obtain⟨len',cs',l3,hk,ht⟩:=O5 h
     simp only [Option.some.injEq,Prod.mk.injEq]at hk
     obtain⟨rfl,rfl⟩:=hk
     obtain⟨q1,q2⟩:=Ak.1 hl
     obtain⟨rfl,rfl⟩:=ht q2
     obtain⟨k1,k2⟩:=R7 q1
     simp only [Bool.and_eq_true,beq_iff_eq,Nat.blt_eq,Nat.ble_eq]at hb
     simp only [h1,h2,k2,h3,hb.2]
     exact⟨⟨k1,hb.1.1.1,hb.1.1.2,hb.1.2⟩,trivial⟩
    ·cases h
   ·cases h
  ·cases h
 ·cases h
def p5 (P:Program) (st:St) (s:Stp) (o:Oper):Option (List Prop×St):=
 match o.op with
 | .store T x y=>jN P st s o.dst T ((Bc st true x).1++(Bc st true y).1) (Bc st true x).2 (UY st (Bc st true x).2 (jp y (Bc st true y).2))
 | op=>match o.dst with
   | none=>none
   | some d=>match op with
     | .alloc T=>match TS P T with
       | some cs=>some ([],(st.new ⟨d::st.pre,none,cs,false⟩).put (some d) (.c (.ptr (d::st.pre) 0)))
       | none=>none
     | .box _ x=>match (Bc st true x).2.cells with
       | some cs=>some ((Bc st true x).1,(st.new ⟨d::st.pre,none,cs,false⟩).put (some d) (.c (.ptr (d::st.pre) 0)))
       | none=>none
     | .assign (.const (.slice none 0 0))=>match Em P o.type with
       | some (E,n)=>some ([],(st.new ⟨d::st.pre,some (E,n,0),[],true⟩).put (some d) (.c (.osl (d::st.pre))))
       | none=>none
     | .buildSlice t len ps=>td P st s d t len ps.toList
     | .makeSlice t l c=>mN P st s d t ((Bc st true l).1++(Bc st true c).1) (Bc st true l).2 (Bc st true c).2
     | .call c=>match c.callee,c.args.toList,c.argTypes.toList with
       | .builtin .append,[u,x],[t,t']=>match t==t' with
         | true=>bY P st s d t ((Bc st true u).1++(Bc st true x).1) (Bc st true u).2 (Bc st true x).2
         | false=>none
       | .builtin .copy,[u,x],[t,_]=>pZ P st s d t ((Bc st true u).1++(Bc st true x).1) (Bc st true u).2 (Bc st true x).2
       | _,_,_=>none
     | _=>none
theorem R8 {P:Program} {st st':St} {s:Stp} {o:Oper} {l:List Prop} (h:p5 P st s o=some (l,st')) (hl:Bb l):(PL.ef P st o).1∧(PL.ef P st o).2=st':=by
 have A: ∀ x,Bb (Bc st true x).1→(st.arg true x).1∧(st.arg true x).2=(Bc st true x).2:=fun x hx=>Nz hx
 obtain⟨dst,op,ty,pos,aft,gd⟩:=o
 cases op<;>cases dst<;>simp only [p5]at h<;>simp only [PL.ef]<;>try (cases h;done)
 case store.none T x y=>
  have:=P5 h hl
  obtain⟨q1,q2⟩:=Ak.1 this.1
  obtain⟨k1,k2⟩:=A x q1
  obtain⟨k3,k4⟩:=A y q2
  rw [k2,k4]
  exact⟨⟨k1,k3,this.2.1⟩,this.2.2⟩
 case store.some T x y d=>
  have:=P5 h hl
  obtain⟨q1,q2⟩:=Ak.1 this.1
  obtain⟨k1,k2⟩:=A x q1
  obtain⟨k3,k4⟩:=A y q2
  rw [k2,k4]
  exact⟨⟨k1,k3,this.2.1⟩,this.2.2⟩
 case alloc.some T d=>
  split at h
  ·rename_i cs hz
   simp only [Option.some.injEq,Prod.mk.injEq]at h
   obtain⟨rfl,rfl⟩:=h
   simp only [hz];exact⟨trivial,trivial⟩
  ·cases h
 case box.some T x d=>
  split at h
  ·rename_i cs hz
   simp only [Option.some.injEq,Prod.mk.injEq]at h
   obtain⟨rfl,rfl⟩:=h
   obtain⟨k1,k2⟩:=A x hl
   simp only [k2,hz];exact⟨⟨k1,trivial⟩,trivial⟩
  ·cases h
 case assign.some x d=>
  split at h
  all_goals first
   | (split at h
      ·rename_i E n hE
       simp only [Option.some.injEq,Prod.mk.injEq]at h
       obtain⟨rfl,rfl⟩:=h
       simp_all
      ·cases h)
   | (rename_i q;simp_all;done)
   | (cases h;done)
   | simp_all
 case buildSlice.some t len ps d=>exact jP h hl
 case makeSlice.some t a b d=>
  have:=fg h hl
  obtain⟨q1,q2⟩:=Ak.1 this.1
  obtain⟨k1,k2⟩:=A a q1
  obtain⟨k3,k4⟩:=A b q2
  rw [k2,k4]
  exact⟨⟨k1,k3,this.2.1⟩,this.2.2⟩
 case call.some c d=>
  split at h
  ·rename_i u x t t' h1 h2 h3
   split at h
   ·rename_i hb
    obtain rfl:t=t':=by simpa using hb
    have:=Yv h hl
    obtain⟨q1,q2⟩:=Ak.1 this.1
    obtain⟨k1,k2⟩:=A u q1
    obtain⟨k3,k4⟩:=A x q2
    simp only [h1,h2,h3]
    rw [k2,k4]
    exact⟨⟨k1,k3,trivial,this.2.1⟩,this.2.2⟩
   ·cases h
  ·rename_i u x t t' h1 h2 h3
   have:=ff h hl
   obtain⟨q1,q2⟩:=Ak.1 this.1
   obtain⟨k1,k2⟩:=A u q1
   obtain⟨k3,k4⟩:=A x q2
   simp only [h1,h2,h3]
   rw [k2,k4]
   exact⟨⟨k1,k3,trivial,this.2.1⟩,this.2.2⟩
  ·cases h
def Stp.u:Stp→Option V
 | .v x=>some x
 | _=>none
def yG (P:Program) (st:St) (o:Oper) (t:Option (Nat×List C)):Option (List Prop×St):=match Ca o.op,p5 P st (match t with
    | none=> .a
    | some (l,cs)=> .e l cs) o,o.dst with
 | .ef,some (l,st1),some d=>match st1.get d with
   | .c (.osl r)=>match st1.look r with
     | some er=>match er.row,er.pu with
       | some (E,n,len),true=>some (l++[er.cs.all xc=true],(st1.killP (fun i=>i==r||(i==1000003::r||ek (1000003::r) i)) (⟨1000003::r,some (E,n,len),er.cs,true⟩::((st1.so.filter (fun d=>d.id != r&&d.id != 1000003::r)).map (AY.killP (fun i=>i==r||(i==1000003::r||ek (1000003::r) i)))))).put (some d) (.c (.osl (1000003::r))))
       | _,_=>none
     | none=>none
   | _=>none
 | _,_,_=>none
theorem te {P:Program} {I:World→Prop} {o:Oper} {st st':St} {K:St→Prop} {t:Option (Nat×List C)} {l:List Prop} (h:yG P st o t=some (l,st')) (hl:Bb l) (hK:K st'):Yp P I o st K:=by
 unfold yG at h
 split at h
 case h_2=>cases h
 rename_i l1 st1 d hk hef hdst
 split at h
 case h_2=>cases h
 rename_i r hget
 split at h
 case h_2=>cases h
 rename_i er her
 split at h
 case h_2=>cases h
 rename_i E n len hrow hpu
 simp only [Option.some.injEq,Prod.mk.injEq]at h
 obtain⟨rfl,rfl⟩:=h
 obtain⟨q1,q2,_⟩:=Ak.1 hl
 intro F a w G Q hI hR
 obtain⟨h1,h2⟩:=R8 hef q1
 have hs:nV P F.I o st (fun s'=>s'=st1):=by
  unfold nV
  refine .inr ?_
  rw [hk]
  exact⟨h1,h2⟩
 refine Oper.wp_mono (fun a' w' ⟨s',G',hs',hR'⟩=>?_) (Ny hR hs)
 subst hs'
 obtain⟨G2,g1,g2⟩:=hR'.deepen her hrow hpu q2 (id:=1000003::r) rfl rfl
 have hv:=hR'.slots d
 rw [show s'.tm.getD d .undef = .c (.osl r)from hget]at hv
 simp only [Am,As]at hv
 exact⟨_,G2,hK,g1.reslot (by simp only [Am,As];exact⟨by rw [g2];exact hv.1,hv.2⟩)⟩
def yH (P:Program) (st:St) (o:Oper):Option (List Prop×St):=match o.op,o.dst with
 | .buildSlice t len ps,some d=>match EC P t with
   | some (E,n,_)=>match LV P E with
     | some z=>match Hz (fun i=>some (i*n,n)) (Cg z len) ((HD st true ps.toList).2.map TT)with
       | some cs=>match z.length==n&&Nat.blt 0 n&&Nat.ble (len*n) (2 ^ 24)with
         | true=>some ((HD st true ps.toList).1,(st.new ⟨d::st.pre,some (E,n,len),cs,AJ cs⟩).put (some d) (.c (.osl (d::st.pre))))
         | false=>none
       | none=>none
     | none=>none
   | none=>none
 | _,_=>none
theorem oh {P:Program} {o:Oper} {st st':St} {l:List Prop} (h:yH P st o=some (l,st')) (hl:Bb l):Ca o.op= .ef ∧(PL.ef P st o).1∧(PL.ef P st o).2=st':=by
 obtain⟨dst,op,ty,pos,aft,gd⟩:=o
 unfold yH at h
 simp only at h
 split at h
 case h_2=>cases h
 rename_i t len ps d
 refine⟨rfl,?_⟩
 simp only [PL.ef]
 unfold B1
 split at h
 ·rename_i h1
  split at h
  ·rename_i h2
   split at h
   ·rename_i h3
    split at h
    ·rename_i hb
     simp only [Option.some.injEq,Prod.mk.injEq]at h
     obtain⟨rfl,rfl⟩:=h
     obtain⟨k1,k2⟩:=R7 hl
     simp only [Bool.and_eq_true,beq_iff_eq,Nat.blt_eq,Nat.ble_eq]at hb
     simp only [h1,h2,k2,h3]
     exact⟨⟨k1,hb.1.1,hb.1.2,hb.2⟩,trivial⟩
    ·cases h
   ·cases h
  ·cases h
 ·cases h
def p6 (P:Program) (st:St) (o:Oper):DS→Option (List Prop×St)
 | .ld E n len cs=>yx P st o E n len cs
 | .ix E n len cs=>yy P st o E n len cs
 | .rd E n len cs u=>yz P st o E n len cs u
 | .ln E n len cs=>yA P st o E n len cs
 | .st E n len ln cs cells=>yB P st o E n len ln cs cells
 | .ps cells=>yC P st o cells
 | .ab cells=>yD P st o cells
 | .lx E n len cs=>yE P st o E n len cs
 | .nw t=>yG P st o t
 | .bs =>yH P st o
 | .aa ln cells=>yF P st o ln cells
theorem oi {P:Program} {I:World→Prop} {o:Oper} {st st':St} {K:St→Prop} {x:DS} {l:List Prop} (h:p6 P st o x=some (l,st')) (hl:Bb l) (hK:K st'):nV P I o st K:=by
 cases x<;>simp only [p6]at h
 case bs=>
  obtain⟨h1,h2,h3⟩:=oh h hl
  unfold nV
  refine .inr ?_
  rw [h1]
  exact⟨h2,by rw [h3];exact hK⟩
 all_goals refine .inl ?_
 ·exact sW h hl hK
 ·exact sX h hl hK
 ·exact sY h hl hK
 ·exact sZ h hl hK
 ·exact s5 h hl hK
 ·exact s7 h hl hK
 ·exact s8 h hl hK
 ·exact ta h hl hK
 ·exact te h hl hK
 ·exact tb h hl hK
def HE (P:Program) (I:World→Prop) (dr:Bool) (ops:Array Oper) (o:Oper) (s:Stp) (st:St):Option (List Prop×St):=
 match o.guard with
 | none=>match Ca o.op with
   | .rd =>match uB P st true s.u o.op with
     | some (l,v)=>some (l,st.put o.dst v)
     | none=>none
   | .cut x=>match dr with
     | true=>match uB P st true s.u o.op with
       | some (l,v)=>some (l,st.put o.dst v)
       | none=>none
     | false=>match uB P (st.cutAt true x) true s.u o.op with
       | some (l,v)=>some (l,(st.cutAt true x).put o.dst v)
       | none=>none
   | .ef =>match dr with
     | true=>none
     | false=>p5 P st s o
   | .call f xs=>match s with
     | .c r=>match Cf ((Gh st true xs).2.map (BO st))&&(r.flat||(!dr&&Nat.ble (Er (Gh st true xs).2).length 1&&(Er (Gh st true xs).2).all st.okFrz))with
       | true=>some ((Gh st true xs).1++[AP P I f ((Gh st true xs).2.map (BO st)) (· =r)],match dr with
         | true=>st.put o.dst r
         | false=>st.after (Er (Gh st true xs).2) o.dst r)
       | false=>none
     | _=>none
   | .no =>none
 | some (j,want)=>match GY st ops j want with
   | some g=>match Ca o.op with
     | .rd =>match uB P st g s.u o.op with
       | some ([],v)=>some ([],st.put o.dst (.g g v))
       | some (l,v)=>some ([g=true→Bb l],st.put o.dst (.g g v))
       | none=>none
     | .cut _=>match dr with
       | true=>match uB P st g s.u o.op with
         | some ([],v)=>some ([],st.put o.dst (.g g v))
         | some (l,v)=>some ([g=true→Bb l],st.put o.dst (.g g v))
         | none=>none
       | false=>none
     | .call f xs=>match s with
       | .c r=>match Cf ((Gh st g xs).2.map (BO st))&&(r.flat||(!dr&&(Er (Gh st g xs).2).isEmpty))with
         | true=>some ([g=true→Bb (Gh st g xs).1∧AP P I f ((Gh st g xs).2.map (BO st)) (· =r)],st.put o.dst (.g g r))
         | false=>none
       | _=>none
     | .ef =>match dr with
       | true=>none
       | false=>match p5 P st s o with
         | some (l,st')=>some (l++[g=true],st')
         | none=>none
     | _=>none
   | none=>none
def IG (P:Program) (I:World→Prop) (dr:Bool) (ops:Array Oper) (o:Oper) (s:Stp) (st:St):Option (List Prop×St):=
 match s with
 | .D x=>match dr,o.guard with
   | false,none=>p6 P st o x
   | _,_=>none
 | s=>HE P I dr ops o s st
def HF (P:Program) (I:World→Prop) (dr:Bool) (ops:Array Oper):List Oper→List Stp→St→Option (List Prop×St)
 | [],[],st=>some ([],st)
 | o::rest,s::ss,st=>match IG P I dr ops o s st with
   | some (l,st')=>match HF P I dr ops rest ss st' with
     | some (l',st'')=>some (l++l',st'')
     | none=>none
   | none=>none
 | _,_,_=>none
theorem p7 {st:St} {g:Bool} {x:Operand}:(st.arg g x).2=(Bc st g x).2:=by
 unfold Bc St.arg
 generalize st.ev x=e
 cases e<;>rfl
theorem ZL {st:St} {g:Bool}: ∀ {xs:List Operand},(st.args g xs).2=(Gh st g xs).2
 | []=>rfl
 | x::xs=>by simp only [St.args,Gh,p7,ZL (xs:=xs)]
theorem tf {P:Program} {I:World→Prop} {ops:Array Oper} {o:Oper} {x:DS} {st st':St} {l:List Prop} {K:St→Prop} (h:IG P I false ops o (.D x) st=some (l,st')) (hl:Bb l) (hK:K st'):mE P I ops o st K:=by
 simp only [IG]at h
 split at h
 ·rename_i hg
  unfold mE
  rw [hg]
  exact oi h hl hK
 ·cases h
theorem P6 {P:Program} {I:World→Prop} {ops:Array Oper} {o:Oper} {s:Stp} {st st':St} {l:List Prop} {K:St→Prop} (h:IG P I false ops o s st=some (l,st')) (hl:Bb l) (hK:K st'):mE P I ops o st K:=by
 by_cases hD: ∃ x,s= .D x
 ·obtain⟨x,rfl⟩:=hD
  exact tf h hl hK
 replace h:HE P I false ops o s st=some (l,st'):=by
  cases s<;>first | exact h | exact absurd ⟨_,rfl⟩ hD
 unfold HE at h
 unfold mE
 split at h
 ·rename_i hg
  rw [hg]
  simp only
  unfold nV
  right
  split at h
  ·rename_i hk
   simp only [hk]
   split at h
   ·rename_i l v ho
    simp only [Option.some.injEq,Prod.mk.injEq]at h
    obtain⟨rfl,rfl⟩:=h
    obtain⟨h1,h2⟩:=NA ho hl
    exact⟨h1,by rw [h2];exact hK⟩
   ·cases h
  ·rename_i x hk
   simp only [hk]
   dsimp only at h
   split at h
   ·rename_i l v ho
    simp only [Option.some.injEq,Prod.mk.injEq]at h
    obtain⟨rfl,rfl⟩:=h
    obtain⟨h1,h2⟩:=NA ho hl
    exact⟨h1,by rw [h2];exact hK⟩
   ·cases h
  ·rename_i hk
   simp only [hk]
   obtain⟨h1,h2⟩:=R8 h hl
   exact⟨h1,by rw [h2];exact hK⟩
  ·rename_i f xs hk
   simp only [hk]
   split at h
   ·rename_i r
    split at h
    ·rename_i hb
     simp only [Option.some.injEq,Prod.mk.injEq]at h
     obtain⟨rfl,rfl⟩:=h
     obtain⟨q1,q2,_⟩:=Ak.1 hl
     obtain⟨k1,k2⟩:=P1 q1
     simp only [Bool.and_eq_true,Bool.or_eq_true,Bool.not_false,true_and,Nat.ble_eq,List.all_eq_true]at hb
     rw [k2]
     refine⟨k1,hb.1,_,q2,fun r' hr'=>?_⟩
     subst hr'
     exact⟨hb.2,hK⟩
    ·cases h
   ·cases h
  ·cases h
 ·rename_i j want hg
  rw [hg]
  simp only
  split at h
  ·rename_i g hq
   rw [hq]
   simp only
   unfold uZ
   by_cases hef:Ca o.op= .ef
   ·left
    rw [hef]at h
    dsimp only at h
    split at h
    ·rename_i l1 st1 h1
     simp only [Option.some.injEq,Prod.mk.injEq]at h
     obtain⟨rfl,rfl⟩:=h
     obtain⟨q1,q2,_⟩:=Ak.1 hl
     refine⟨fun _=>?_,fun hf=>by rw [q2]at hf;cases hf⟩
     unfold nV
     right
     simp only [hef]
     obtain⟨k1,k2⟩:=R8 h1 q1
     exact⟨k1,by rw [k2];exact hK⟩
    ·cases h
   right
   split at h
   ·rename_i hk
    simp only [hk]
    split at h
    ·rename_i v ho
     simp only [Option.some.injEq,Prod.mk.injEq]at h
     obtain⟨rfl,rfl⟩:=h
     exact⟨v,fun _=>NA ho trivial,hK⟩
    ·rename_i l v hne ho
     simp only [Option.some.injEq,Prod.mk.injEq]at h
     obtain⟨rfl,rfl⟩:=h
     exact⟨v,fun hgt=>NA ho (hl.1 hgt),hK⟩
    ·cases h
   ·cases h
   ·rename_i f xs hk
    simp only [hk]
    split at h
    ·rename_i r
     split at h
     ·rename_i hb
      simp only [Option.some.injEq,Prod.mk.injEq]at h
      obtain⟨rfl,rfl⟩:=h
      simp only [Bool.and_eq_true,Bool.or_eq_true,Bool.not_false,true_and,List.isEmpty_iff]at hb
      refine⟨fun hgt=>?_,r,hb.2.imp id (fun q=>by rw [ZL];exact q),fun hgt=>?_,hK⟩
      ·obtain⟨k1,k2⟩:=P1 (hl.1 hgt).1
       rw [k2]
       exact⟨k1,hb.1⟩
      ·obtain⟨k1,k2⟩:=P1 (hl.1 hgt).1
       rw [k2]
       exact(hl.1 hgt).2
     ·cases h
    ·cases h
   ·rename_i hk;exact absurd hk hef
   ·cases h
  ·cases h
theorem bZ {P:Program} {I:World→Prop} {ops:Array Oper}: ∀ {l:List Oper} {ss:List Stp} {st st':St} {cs:List Prop} {K:St→Prop},HF P I false ops l ss st=some (cs,st')→Bb cs→K st'→CF P I ops l st K
 | [],[],st,st',cs,K,h,_,hK=>by
   simp only [HF,Option.some.injEq,Prod.mk.injEq]at h
   obtain⟨rfl,rfl⟩:=h
   exact hK
 | o::rest,s::ss,st,st',cs,K,h,hl,hK=>by
   simp only [HF]at h
   split at h
   ·rename_i l1 st1 h1
    split at h
    ·rename_i l2 st2 h2
     simp only [Option.some.injEq,Prod.mk.injEq]at h
     obtain⟨rfl,rfl⟩:=h
     obtain⟨q1,q2⟩:=Ak.1 hl
     exact P6 (K:=fun s=>CF P I ops rest s K) h1 q1 (bZ h2 q2 hK)
    ·cases h
   ·cases h
 | [],_::_,_,_,_,_,h,_,_=>by simp [HF]at h
 | _::_,[],_,_,_,_,h,_,_=>by simp [HF]at h
section
variable {P:Program} {F:Fr} {st:St}
theorem Aj.reg {id:Nat} {l:List Oper} {Q:Exit→St→Prop} {ss:List Stp} {cs:List Prop} {st':St} (hr:HF P F.I false l.toArray l ss st=some (cs,st')) (hl:Bb cs) (h:Q .normal st'):Aj P F (.region id l.toArray false) st Q:=
 Aj.region (bZ hr hl h)
theorem Aj.ifB {c:Operand} {x y:Code} {Q:Exit→St→Prop} (b:Bool) (hc:st.ev c= .c (.bool b)) (h1:b=true→Aj P F x st Q) (h2:b=false→Aj P F y st Q):Aj P F (.cond c x y) st Q:=Aj.cond hc h1 h2
def iter {σ ρ:Type} (B:σ→Option (σ⊕ρ)):Nat→σ→Option ρ
 | 0,_=>none
 | n+1,s=>match B s with
   | some (.inl s')=>iter B n s'
   | some (.inr r)=>some r
   | none=>none
end
def Ac (x:Int):Int:=IntKind.i64.wrap x
def gd {α:Type} [Inhabited α] (g:Bool) (o:Option α):Option α:=if g=true then o else some default
def idx {α:Type} [Inhabited α] (l:List α) (i:Int):Option α:=if 0≤i∧i<l.length then some (l.getD i.toNat default)else none
def sidx (s:List UInt8) (i:Int):Option Int:=if 0≤i∧i<s.length then some (s.getD i.toNat 0).toNat else none
def cat (a b:List UInt8):Option (List UInt8):=if a.length+b.length≤maxLen then some (a++b)else none
def ssub (s:List UInt8) (a b:Int):Option (List UInt8):=if 0≤a∧a≤b∧b≤s.length then some ((s.drop a.toNat).take (b.toNat - a.toNat))else none
def lsub {α:Type} (s:List α) (a b:Int):Option (List α):=if 0≤a∧a≤b∧b≤s.length then some ((s.drop a.toNat).take (b.toNat - a.toNat))else none
def app {α:Type} (by':Nat) (l m:List α):Option (List α):=if(l.length+m.length)*by'≤140737488355328∧l.length+m.length≤maxLen then some (l++m)else none
def need (p:Prop) [Decidable p]:Option Unit:=if p then some ()else none
theorem bS {α β:Type} {o:Option α} {k:α→Option β} {r:β} (h:o.bind k=some r): ∃ x,o=some x∧k x=some r:=by
 cases o with
 | none=>cases h
 | some x=>exact⟨x,rfl,h⟩
theorem iT {β:Type} {b:Bool} {x y:Option β} {r:β} (h:(if b=true then x else y)=some r) (hb:b=true):x=some r:=by rw [if_pos hb]at h;exact h
theorem iF {β:Type} {b:Bool} {x y:Option β} {r:β} (h:(if b=true then x else y)=some r) (hb:b=false):y=some r:=by rw [if_neg (by simp [hb])]at h;exact h
theorem sI {α:Type} {x y:α} (h:some x=some y):x=y:=Option.some.inj h
section
variable {α:Type} [Inhabited α] {l m r:List α} {i:Int} {x:α} {g:Bool}
theorem BR (h:idx l i=some x):0≤i∧i<l.length:=by unfold idx at h;split at h; · assumption
                                                 ·cases h
theorem p8 (h:idx l i=some x):x=l.getD i.toNat default:=by unfold idx at h;split at h; · injection h with h;exact h.symm
                                                           ·cases h
theorem U0 {o:Option α} (h:gd g o=some x):g=true→o=some x:=fun hg=>by unfold gd at h;rw [if_pos hg]at h;exact h
theorem R9 (h:gd g (idx l i)=some x):g=true→(0≤i∧i<l.length)∧True:=fun hg=>⟨BR (U0 h hg),trivial⟩
theorem vw {s:List UInt8} {n:Int} (h:sidx s i=some n):0≤i∧i<s.length:=by unfold sidx at h;split at h; · assumption
                                                                         ·cases h
theorem vx {s:List UInt8} {n:Int} (h:sidx s i=some n):n=(s.getD i.toNat 0).toNat :=by unfold sidx at h;split at h; · injection h with h;exact h.symm
                                                                                      ·cases h
theorem uC {a b c:List UInt8} (h:cat a b=some c):a.length+b.length≤maxLen:=by unfold cat at h;split at h; · assumption
                                                                              ·cases h
theorem uD {a b c:List UInt8} (h:cat a b=some c):c=a++b:=by unfold cat at h;split at h; · injection h with h;exact h.symm
                                                            ·cases h
theorem vy {s c:List UInt8} {a b:Int} (h:ssub s a b=some c):0≤a∧a≤b∧b≤s.length:=by unfold ssub at h;split at h; · assumption
                                                                                   ·cases h
theorem vz {s c:List UInt8} {a b:Int} (h:ssub s a b=some c):c=(s.drop a.toNat).take (b.toNat - a.toNat):=by unfold ssub at h;split at h; · injection h with h;exact h.symm
                                                                                                            ·cases h
omit [Inhabited α] in
theorem DI {b:Nat} (h:app b l m=some r):(l.length+m.length)*b≤140737488355328∧l.length+m.length≤maxLen:=by unfold app at h;split at h; · assumption
                                                                                                           ·cases h
omit [Inhabited α] in
theorem Wp {b:Nat} (h:app b l m=some r):r=l++m:=by unfold app at h;split at h; · injection h with h;exact h.symm
                                                   ·cases h
end
theorem Ma {p:Prop} [Decidable p] {u:Unit} (h:need p=some u):p:=by unfold need at h;split at h; · assumption
                                                                   ·cases h
def eI (k:IntKind) (v:Int):List C:=[.int k v]
def eB (v:Bool):List C:=[.bool v]
def eS (v:List UInt8):List C:=[.str v]
def eL {α:Type} (e:α→List C) (l:List α):List C:=[.sl l.length (l.flatMap e)]
theorem b0 {α:Type} [Inhabited α] {l:List α} {i:Int} {x:α} {e:α→List C} {N:Nat} {o n:Nat} {ag:Bool} {v:V} {off:Nat} (hx:idx l i=some x) (hN: ∀ y,(e y).length =N) (hoff:off=i.toNat*N+o) (ho:o+n≤N) (h0:ag=true∨0<n)
 (hv:toV ag o n (e x)=v):off+n≤(l.flatMap e).length ∧toV ag off n (l.flatMap e)=v:=by
 have hb:=BR hx
 have hxx:=p8 hx
 have hlt:i.toNat<l.length:=by omega
 subst hoff
 rw [Cb hN]
 constructor
 ·have:(i.toNat+1)*N≤l.length*N:=Nat.mul_le_mul_right _ hlt
  rw [Nat.add_mul]at this
  omega
 ·rw [←hv]
  unfold toV
  cases ag with
  | true=>simp only [if_true];rw [ZG hN l default hlt o n ho, ←hxx]
  | false=>simp only [Bool.false_eq_true,if_false];rw [pR hN l default hlt o (by rcases h0 with h | h<;>first | (cases h;done) | omega), ←hxx]
def p9 (P:Program) (st:St):ResultVar→Option V
 | .tmp t=>some (st.get t)
 | .cell t T=>match mI P T st [] (st.get t)with
   | some (_,v)=>some v
   | none=>none
def Wq (P:Program) (st:St):List ResultVar→Option (List V)
 | []=>some []
 | x::xs=>match p9 P st x,Wq P st xs with
   | some v,some vs=>some (v::vs)
   | _,_=>none
def Yw (P:Program) (st:St):List ResultVar→Option V
 | [x]=>p9 P st x
 | xs=>match Wq P st xs with
   | some vs=>some (.tup vs)
   | none=>none
theorem O7 {P:Program} {st:St} {x:ResultVar} {v:V} (h:p9 P st x=some v):(N6 P st x).1∧(N6 P st x).2=v:=by
 cases x with
 | tmp t=>simp only [p9,Option.some.injEq]at h;exact⟨trivial,h⟩
 | cell t T=>
   simp only [p9]at h
   split at h
   ·rename_i l u hl
    injection h with h;subst h
    have:=T5 hl
    exact⟨this.2.1,this.2.2⟩
   ·cases h
theorem Mb {P:Program} {st:St}: ∀ {xs:List ResultVar} {vs:List V},Wq P st xs=some vs→(DH P st xs).1∧(DH P st xs).2=vs
 | [],vs,h=>by simp only [Wq,Option.some.injEq]at h;subst h;exact⟨trivial,rfl⟩
 | x::xs,vs,h=>by
   simp only [Wq]at h
   split at h
   ·rename_i v us h1 h2
    injection h with h;subst h
    have a:=O7 h1
    have b:=Mb h2
    exact⟨⟨a.1,b.1⟩,by simp only [DH,a.2,b.2]⟩
   ·cases h
theorem qc {P:Program} {st:St} {xs:List ResultVar} {v:V} (h:Yw P st xs=some v):(Cz P st xs).1∧(Cz P st xs).2=v:=by
 match xs with
 | [x]=>exact O7 h
 | []=>simp only [Yw,Wq,Option.some.injEq]at h;subst h;exact⟨trivial,rfl⟩
 | x::y::xs=>
   simp only [Yw]at h
   split at h
   ·rename_i vs hv
    injection h with h;subst h
    have:=Mb hv
    exact⟨this.1,by simp only [Cz,this.2]⟩
   ·cases h
theorem fh {P:Program} {st:St} {x:ResultVar}:(PY P st x).1=(N6 P st x).1∧(PY P st x).2=BO st (N6 P st x).2:=by cases x<;>exact⟨rfl,rfl⟩
theorem ZM {P:Program} {st:St}: ∀ {xs:List ResultVar},(EK P st xs).1=(DH P st xs).1∧(EK P st xs).2=(DH P st xs).2.map (BO st)
 | []=>⟨rfl,rfl⟩
 | x::xs=>by
   have a:=fh (P:=P) (st:=st) (x:=x)
   have b:=ZM (P:=P) (st:=st) (xs:=xs)
   simp only [EK,DH,a.1,a.2,b.1,b.2,List.map_cons,and_self]
def qd (st:St) (rs:List ResultVar):V→V
 | .tup vs=>match rs with
   | [_]=> .tup vs
   | _=> .tup (vs.map (BO st))
 | v=>BO st v
theorem mO {P:Program} {st:St} {rs:List ResultVar} {v r:V} {e:Exit} (he:e= .normal ∨e= .ret) (h:Yw P st rs=some v) (hs:qd st rs v=r) (hp:r.pure=true) {r':V} (hr:r=r'):
 (e= .normal ∨e= .ret)∧(C0 P st rs).1∧(C0 P st rs).2.pure =true∧(C0 P st rs).2=r':=by
 subst hr
 have key:(C0 P st rs).1∧(C0 P st rs).2=r:=by
  match rs with
  | [x]=>
    have a:=O7 h
    have b:=fh (P:=P) (st:=st) (x:=x)
    simp only [C0]
    rw [b.1,b.2,a.2, ←hs]
    exact⟨a.1,by cases v<;>rfl⟩
  | []=>
    simp only [Yw,Wq,Option.some.injEq]at h
    subst h;subst hs
    exact⟨trivial,rfl⟩
  | x::y::xs=>
    simp only [Yw]at h
    split at h
    ·rename_i vs hv
     injection h with h;subst h
     have a:=Mb hv
     have b:=ZM (P:=P) (st:=st) (xs:=x::y::xs)
     simp only [C0]
     rw [b.1,b.2,a.2, ←hs]
     exact⟨a.1,rfl⟩
    ·cases h
 exact⟨he,key.1,by rw [key.2];exact hp,key.2⟩
def T7:List Bool→List V→List V
 | [],_=>[]
 | true::m,v::vs=>v::T7 m vs
 | false::m,_::vs=> .undef ::T7 m vs
 | _::_,[]=>[]
theorem mP: ∀ {m:List Bool} {l l':List V},m.length=l.length→T7 m l=l'→eQ l l'
 | [],[],l',_,h=>by simp only [T7]at h;subst h;trivial
 | true::m,v::vs,l',hl,h=>by simp only [T7]at h;subst h;exact⟨.inr rfl,mP (by simpa using hl) rfl⟩
 | false::m,v::vs,l',hl,h=>by simp only [T7]at h;subst h;exact⟨.inl rfl,mP (by simpa using hl) rfl⟩
 | [],_::_,_,hl,_=>by simp at hl
 | _::_,[],_,hl,_=>by simp at hl
section
variable {P:Program} {F:Fr} {st:St}
end
theorem yI {α β γ:Type} {f:α→γ} {g:β→γ} {a:α} {r:γ} (h:Sum.elim f g (.inl a)=r):f a=r:=h
theorem yJ {α β γ:Type} {f:α→γ} {g:β→γ} {a:β} {r:γ} (h:Sum.elim f g (.inr a)=r):g a=r:=h
def FU:Nat:=9223372036854775807
theorem qe {α:Type} [Inhabited α] {l:List α} {i:Int} {x:α} {e:α→List C} {N:Nat} {o n base:Nat} {ag:Bool} {v:V} {off:Nat} {cs pre post:List C} (hcs:cs=pre++(l.flatMap e++post)) (hb:pre.length=base) (hx:idx l i=some x) (hN: ∀ y,(e y).length =N) (hoff:off=base+(i.toNat*N+o)) (ho:o+n≤N) (h0:ag=true∨0<n)
 (hv:toV ag o n (e x)=v):off+n≤cs.length∧toV ag off n cs=v:=by
 obtain⟨h1,h2⟩:=b0 hx hN rfl ho h0 hv
 subst hcs hoff hb
 constructor
 ·simp only [List.length_append];omega
 ·rw [←h2]
  unfold toV
  cases ag with
  | true=>
    simp only [if_true]
    rw [←List.drop_drop,List.drop_left,List.drop_append_of_le_length (by omega),List.take_append_of_le_length (by simp only [List.length_drop];omega)]
  | false=>
    simp only [Bool.false_eq_true,if_false]
    have h3:0<n:=by rcases h0 with h | h<;>first | (cases h;done) | exact h
    simp only [List.getD_eq_getElem?_getD]
    rw [List.getElem?_append_right (by omega),Nat.add_sub_cancel_left,List.getElem?_append_left (by omega)]
end Go.PL
namespace Go.PL
open Go Go.RowKit
def C2 (n k:Nat):List Bool:=(List.range k).map (Nat.testBit n)
theorem oj (n k:Nat):(C2 n k).length =k:=by simp [C2]
theorem ZN (n k i:Nat):(C2 n k).toArray.setIfInBounds i true=(C2 (n||| 2 ^ i) k).toArray :=by
 apply Array.ext
 ·simp [C2]
 ·intro j h1 h2
  have hj:j<k:=by simpa [C2] using h2
  have e:((C2 n k).toArray.setIfInBounds i true).toList =(C2 n k).set i true:=by simp
  have e2:((C2 n k).toArray.setIfInBounds i true)[j]=((C2 n k).set i true)[j]'(by simp [C2,hj]):=by simp [←Array.getElem_toList]
  rw [e2,List.getElem_set]
  simp only [C2,List.getElem_toArray,List.getElem_map,List.getElem_range,Nat.testBit_or,Nat.testBit_two_pow]
  split
  ·rename_i h;simp [h]
  ·rename_i h;simp [h]
def U1 (ops:Array Oper) (n:Nat):List Nat:=Region.ready .any ops (C2 n ops.size).toArray
def VC (ops:Array Oper) (nodes:List Nat):Bool:=
 nodes.contains 0&&nodes.all fun n=>(!(U1 ops n).isEmpty ||(C2 n ops.size).all id)&&(U1 ops n).all fun i=>nodes.contains (n||| 2 ^ i)
def jQ (ids:List AC) (st:St):St:={st with so:=ids.filterMap fun i=>st.so.find? fun e=>e.id==i}
theorem Sa (ids:List AC) (hn:ids.Nodup) (st:St):Ch st (jQ ids st) where
 len:=rfl
 tm:=fun _=> .inr rfl
 so:=fun e he=>by
  simp only [jQ,List.mem_filterMap]at he
  obtain⟨i,_,h⟩:=he
  exact List.mem_of_find?_eq_some h
 nd:=fun _=>by
  have: ∀ ids:List AC,((ids.filterMap fun i=>st.so.find? fun e=>e.id==i).map (·.id)).Sublist ids:=by
   intro ids
   induction ids with
   | nil=>simp
   | cons i ids ih=>
     simp only [List.filterMap_cons]
     split
     ·exact ih.cons _
     ·rename_i e he
      have:=List.find?_some he
      simp only [beq_iff_eq]at this
      simp only [List.map_cons,this]
      exact ih.cons_cons _
  exact List.Sublist.nodup (this ids) hn
 gh:=⟨rfl,fun _=> .inr rfl⟩
 pre:=rfl
def fi (P:Program) (I:World→Prop) (ops:Array Oper) (ss:List Stp) (ids:List AC) (st:St) (i:Nat):Option (List Prop×St):=
 match ops[i]?,ss[i]? with
 | some o,some s=>match IG P I false ops o s st with
   | some (c,st')=>some (c,jQ ids st')
   | none=>none
 | _,_=>none
def xi (P:Program) (I:World→Prop) (ops:Array Oper) (ss:List Stp) (ids:List AC) (SL:Nat→St) (nodes:List Nat):List (Option (List Prop×St)):=
 nodes.flatMap fun n=>(U1 ops n).map fun i=>fi P I ops ss ids (SL n) i
def uE (ops:Array Oper) (cs:List (List Prop)) (SL:Nat→St) (nodes:List Nat):List (Option (List Prop×St)):=
 nodes.flatMap fun n=>(U1 ops n).map fun i=>some (cs.getD i [],SL (n||| 2 ^ i))
theorem mQ {α β:Type} {f g:α→Nat→β} {r:α→List Nat}: ∀ {l:List α},(l.flatMap fun n=>(r n).map (f n))=(l.flatMap fun n=>(r n).map (g n))→ ∀ n∈l, ∀ i∈r n,f n i=g n i
 | [],_,n,hn,_,_=>by simp at hn
 | a::l,h,n,hn,i,hi=>by
   simp only [List.flatMap_cons]at h
   have hh:=List.append_inj h (by simp)
   rcases List.mem_cons.1 hn with rfl | hn
   ·have:=hh.1
    have:=List.map_inj_left.1 this
    exact this i hi
   ·exact mQ hh.2 n hn i hi
def P7:List (List Prop)→Prop
 | []=>True
 | l::ls=>Bb l∧P7 ls
theorem Sb: ∀ {cs:List (List Prop)},P7 cs→ ∀ i,Bb (cs.getD i [])
 | [],_,i=>by simp [Bb]
 | l::ls,h,0=>by simpa using h.1
 | l::ls,h,i+1=>by simpa using Sb h.2 i
section
variable {P:Program} {F:Fr} {st:St} {ops:Array Oper}
theorem ZO {a:Act} {w:World} {G:Bp} (h:R F st a w G) {o:Oper} {K:St→Prop} {Q:Exit→Act→World→Prop} (hs:mE P F.I ops o st K):
 if Region.wanted o (yielded ops a.tmps)=true then o.wp P a w (nU F K) Q else nU F K (a.put o.dst Go.undef) w:=by
 unfold mE at hs
 split at hs
 ·rename_i hg
  rw [L3 hg,if_pos rfl]
  exact Ny h hs
 ·rename_i j want hg
  split at hs
  ·rename_i g hq
   rw [HA h hg hq]
   exact ZC h hs
  ·exact hs.elim
def qf (l:List Bool):Nat:=(l.filter (! ·)).length
theorem cd: ∀ (l:List Bool) (i:Nat),l[i]? =some false→qf (l.set i true)+1=qf l
 | [],i,h=>by simp at h
 | b::l,0,h=>by simp at h;subst h;simp [qf]
 | b::l,i+1,h=>by
   have:=cd l i (by simpa using h)
   cases b<;>simp_all [qf]<;>omega
theorem fj: ∀ (l:List Bool),qf l=0→l.all id=true
 | [],_=>rfl
 | true::l,h=>by simp [qf]at h ⊢;simpa using h
 | false::l,h=>by simp [qf]at h
theorem yK {nodes:List Nat} {ss:List Stp} {ids:List AC} {cs:List (List Prop)} {SL:Nat→St} {Q:Exit→St→Prop} (hcl:VC ops nodes=true) (hids:ids.Nodup)
 (hst:xi P F.I ops ss ids SL nodes=uE ops cs SL nodes) (hc:P7 cs) (hQ: ∀ n∈nodes,(C2 n ops.size).all id=true→Q .normal (SL n)):
 ∀ (fuel n:Nat) (a:Act) (w:World) (G:Bp),n∈nodes→qf (C2 n ops.size)≤fuel→R F (SL n) a w G→
   wpAny P .any ops (fun e a' w'=> ∃ st' G',Q e st'∧R F st' a' w' G') fuel (C2 n ops.size).toArray a w:=by
 simp only [VC,Bool.and_eq_true,List.all_eq_true,Bool.or_eq_true,Bool.not_eq_true',List.contains_iff_mem]at hcl
 have hall:=mQ (r:=U1 ops) hst
 have rdyFalse: ∀ n i,i∈U1 ops n→(C2 n ops.size)[i]? =some false:=by
  intro n i hi
  unfold U1 Region.ready at hi
  simp only [List.mem_filter,List.mem_range,Bool.and_eq_true,Bool.not_eq_true']at hi
  obtain⟨h1,h2,_⟩:=hi
  have hlt:i<(C2 n ops.size).length :=by rw [oj];exact h1
  rw [List.getElem?_eq_getElem hlt]
  simp [Array.getD_eq_getD_getElem?,hlt]at h2
  rw [h2]
 intro fuel
 induction fuel with
 | zero=>
   intro n a w G hn hu hR
   have hz:=fj _ (Nat.le_zero.1 hu)
   have hr:U1 ops n=[]:=by
    rcases hrr:U1 ops n with _ | ⟨i,r⟩
    ·rfl
    ·have:=rdyFalse n i (by rw [hrr];simp)
     rw [List.all_eq_true]at hz
     have:=hz false (List.mem_of_getElem? this)
     simp at this
   exact⟨hr,_,G,hQ n hn hz,hR⟩
 | succ fuel ih=>
   intro n a w G hn hu hR
   refine⟨fun hr=>?_,fun i hi=>?_⟩
   ·have h2:=(hcl.2 n hn).1
    rcases h2 with h2 | h2
    ·have:(U1 ops n).isEmpty =true:=by rw [show U1 ops n=[] from hr];rfl
     rw [this]at h2;cases h2
    ·exact⟨_,G,hQ n hn (by rw [List.all_eq_true];exact h2),hR⟩
   ·have hi':i∈U1 ops n:=hi
    have hstep:=hall n hn i hi'
    unfold fi at hstep
    split at hstep
    ·rename_i o s ho hs
     split at hstep
     ·rename_i c st' hss
      simp only [Option.some.injEq,Prod.mk.injEq]at hstep
      obtain⟨hcc,hst'⟩:=hstep
      have hwp:=P6 (K:=fun s'=>Ch s' (SL (n||| 2 ^ i))) hss (hcc▸Sb hc i) (hst'▸Sa ids hids st')
      have hw:=ZO (Q:=fun e a' w'=> ∃ st' G',Q e st'∧R F st' a' w' G') hR hwp
      have hnext: ∀ a' w',nU F (fun s'=>Ch s' (SL (n||| 2 ^ i))) a' w'→wpAny P .any ops (fun e a' w'=> ∃ st' G',Q e st'∧R F st' a' w' G') fuel ((C2 n ops.size).toArray.setIfInBounds i true) a' w':=by
       intro a' w' ⟨s',G',hl,hR'⟩
       rw [ZN]
       refine ih (n||| 2 ^ i) a' w' G' ((hcl.2 n hn).2 i hi') ?_ (hR'.less hl)
       have hb:=rdyFalse n i hi'
       have e:C2 (n||| 2 ^ i) ops.size=(C2 n ops.size).set i true:=by
        have:=congrArg Array.toList (ZN n ops.size i)
        simpa using this.symm
       have:=cd _ i hb
       rw [←e]at this
       omega
      unfold wpOp
      rw [ho]
      simp only
      by_cases hwt:Region.wanted o (yielded ops a.tmps)=true
      ·rw [if_pos hwt]at hw ⊢
       exact .inl (Oper.wp_mono hnext hw)
      ·rw [if_neg hwt]at hw ⊢
       exact hnext _ _ hw
     ·cases hstep
    ·cases hstep
theorem Aj.regN {rid:Nat} {l:List Oper} {Q:Exit→St→Prop} (nodes:List Nat) (full:Nat) (ss:List Stp) (ids:List AC) (SL:Nat→St) (cs:List (List Prop)) (h1:P.follows .mixedOrders =true) (hcl:VC l.toArray nodes=true) (hfull:(nodes.all fun n=> !(C2 n l.length).all id||Nat.beq n full)=true) (hids:ids.Nodup)
 (h0:Ch st (SL 0)) (hst:xi P F.I l.toArray ss ids SL nodes=uE l.toArray cs SL nodes) (hc:P7 cs) (hQ:Q .normal (SL full)):Aj P F (.region rid l.toArray true) st Q:=by
 intro a w G hR
 refine wp_region_any h1 ?_
 have hR':=(hR.less h0).same (w':={w with drawn:=w.drawn+1}) ⟨rfl,rfl,rfl⟩ ⟨Nat.le_refl _,fun _ _=>rfl⟩
 have h0':C2 0 l.toArray.size=List.replicate l.toArray.size false:=by
  apply List.ext_getElem<;>simp [C2]
 have key:=yK (P:=P) (ops:=l.toArray) (Q:=Q) hcl hids hst hc (fun n hn hall=>by
  have:=List.all_eq_true.1 hfull n hn
  simp only [Bool.or_eq_true,Bool.not_eq_true']at this
  rcases this with this | this
  ·have:(C2 n l.length).all id=true:=by simpa using hall
   simp_all
  ·rw [Nat.eq_of_beq_eq_true this];exact hQ) l.toArray.size 0 a _ G (by
   simp only [VC,Bool.and_eq_true,List.contains_iff_mem]at hcl
   exact hcl.1) (by
   rw [h0'];simp [qf]) hR'
 rw [h0']at key
 simpa using key
end
end Go.PL
namespace Go.PL
open Go Go.RowKit
section
variable {P:Program} {I:World→Prop} {ops:Array Oper} {st st':St} {K:St→Prop}
theorem ZP: ∀ {l:List Oper} {n:Nat} {ss:List Stp} {st st':St} {cs:List Prop},HF P I false ops (l.take n) ss st=some (cs,st')→Bb cs→CF P I ops (l.drop n) st' K→CF P I ops l st K
 | l,0,ss,st,st',cs,h,hc,hK=>by
   cases ss with
   | nil=>
     simp only [List.take_zero,HF,Option.some.injEq,Prod.mk.injEq]at h
     obtain⟨rfl,rfl⟩:=h
     simpa using hK
   | cons=>simp [HF]at h
 | [],n+1,ss,st,st',cs,h,hc,hK=>by
   cases ss with
   | nil=>
     simp only [List.take_nil,HF,Option.some.injEq,Prod.mk.injEq]at h
     obtain⟨rfl,rfl⟩:=h
     simpa using hK
   | cons=>simp [HF]at h
 | o::l,n+1,[],st,st',cs,h,hc,hK=>by simp [HF]at h
 | o::l,n+1,s::ss,st,st',cs,h,hc,hK=>by
   simp only [List.take_succ_cons,HF]at h
   split at h
   ·rename_i l1 st1 h1
    split at h
    ·rename_i l2 st2 h2
     simp only [Option.some.injEq,Prod.mk.injEq]at h
     obtain⟨rfl,rfl⟩:=h
     obtain⟨q1,q2⟩:=Ak.1 hc
     exact P6 (K:=fun s=>CF P I ops l s K) h1 q1 (ZP h2 q2 (by simpa using hK))
    ·cases h
   ·cases h
theorem Run.part {l:List Oper} (n:Nat) {ss:List Stp} {cs:List Prop} (st':St) (h:HF P I false ops (l.take n) ss st=some (cs,st')) (hc:Bb cs) (hK:CF P I ops (l.drop n) st' K):CF P I ops l st K:=ZP h hc hK
theorem Run.whole {l:List Oper} {ss:List Stp} {cs:List Prop} (st':St) (h:HF P I false ops l ss st=some (cs,st')) (hc:Bb cs) (hK:K st'):CF P I ops l st K:=bZ h hc hK
theorem Run.inl {l rest:List Oper} {o:Oper} (hl:l=o::rest) (hg:o.guard=none) (h:Yp P I o st (fun st'=>CF P I ops rest st' K)):CF P I ops l st K:=by
 subst hl
 simp only [CF,mE,hg]
 exact .inl h
theorem Run.inlJ {X:Type} (S:X→St) (Φ:X→Prop) {l rest:List Oper} {o:Oper} (hl:l=o::rest) (hg:o.guard=none) (h:Yp P I o st (fun st'=> ∃ v,Φ v∧Ch st' (S v))) (hK: ∀ v,Φ v→CF P I ops rest (S v) K):CF P I ops l st K:=
 Run.inl hl hg fun F a w G Q hI hR=>Oper.wp_mono (fun _ _ ⟨_,G',⟨v,hv,hl⟩,hR'⟩=>⟨S v,G',hK v hv,hR'.less hl⟩) (h F a w G Q hI hR)
theorem pP.ret {rs:List ResultVar} {m:Nat} {pre:AC} {d:Option Nat} {v:V} (h:Yw P st rs=some v) (hK:K (st.back m pre d v)):pP P rs m pre d K .ret st:=by
 have:=qc h
 exact⟨this.1,by rw [this.2];exact hK⟩
end
end Go.PL
namespace Go.PL
open Go Go.RowKit
def HG (l:List Int):List UInt8:=l.map fun n=>UInt8.ofNat n.toNat
theorem Ku: ∀ {l:List Int},(∀ n∈l,0≤n∧n<256)→IB (l.flatMap (eI .u8))
 | [],_=>trivial
 | n::l,h=>by
   rw [List.flatMap_cons]
   exact⟨h n (by simp),Ku (fun m hm=>h m (by simp [hm]))⟩
theorem Mc: ∀ (l:List Int),Kp (l.flatMap (eI .u8))=HG l
 | []=>rfl
 | n::l=>by
   rw [List.flatMap_cons]
   show UInt8.ofNat n.toNat::Kp (l.flatMap (eI .u8))=_
   rw [Mc l];rfl
end Go.PL
namespace Go.PL
open Go Go.RowKit
theorem Wr {α:Type} (e:α→List C) {N:Nat} (hN: ∀ y,(e y).length =N): ∀ (l:List α) (k:Nat) (x:α),l[k]? =some x→l.flatMap e=(l.take k).flatMap e++(e x++(l.drop (k+1)).flatMap e)∧((l.take k).flatMap e).length =k*N
 | [],k,x,h=>by simp at h
 | a::l,0,x,h=>by simp at h;subst h;simp
 | a::l,k+1,x,h=>by
   obtain⟨h1,h2⟩:=Wr e hN l k x (by simpa using h)
   constructor
   ·rw [List.flatMap_cons,h1];simp [List.append_assoc]
   ·simp [h2,hN,Nat.add_mul];omega
theorem ZQ {α:Type} (e:α→List C): ∀ (l:List α) (k:Nat) (x':α),k<l.length→(l.set k x').flatMap e=(l.take k).flatMap e++(e x'++(l.drop (k+1)).flatMap e)
 | [],k,x,h=>by simp at h
 | a::l,0,x,h=>by simp
 | a::l,k+1,x,h=>by
   rw [List.set_cons_succ,List.flatMap_cons,ZQ e l k x (by simpa using h)]
   simp [List.append_assoc]
theorem vC {α:Type} [Inhabited α] {l:List α} {i:Int} {x x':α} {e:α→List C} {N o off:Nat} {cs pre post:List C} (hx:idx l i=some x) (hN: ∀ y,(e y).length =N) (hoff:off=pre.length+(i.toNat*N+o)) (ho:o+cs.length≤N)
 (hx':(e x).take o++(cs++(e x).drop (o+cs.length))=e x'):off+cs.length≤(pre++(l.flatMap e++post)).length ∧
  (pre++(l.flatMap e++post)).take off++cs++(pre++(l.flatMap e++post)).drop (off+cs.length)=pre++((l.set i.toNat x').flatMap e++post):=by
 have hb:=BR hx
 have hlt:i.toNat<l.length:=by omega
 have hk:l[i.toNat]? =some x:=by
  rw [p8 hx,List.getElem?_eq_getElem hlt,List.getD_eq_getElem?_getD,List.getElem?_eq_getElem hlt];rfl
 obtain⟨h1,h2⟩:=Wr e hN l i.toNat x hk
 have h3:=ZQ e l i.toNat x' hlt
 have hex:=hN x
 rw [h1,h3, ←hx']
 subst hoff
 generalize (l.take i.toNat).flatMap e=A at *
 generalize (l.drop (i.toNat+1)).flatMap e=B at *
 generalize e x=X at *
 constructor
 ·simp only [List.length_append];omega
 ·have e1:pre++(A++(X++B)++post)=(pre++(A++X.take o))++((X.drop o).take cs.length++(X.drop (o+cs.length)++(B++post))):=by
   have:X=X.take o++((X.drop o).take cs.length++X.drop (o+cs.length)):=by
    rw [←List.drop_drop,List.take_append_drop,List.take_append_drop]
   conv=>lhs;rw [this]
   simp only [List.append_assoc]
  have l1:(pre++(A++X.take o)).length =pre.length+(i.toNat*N+o):=by simp only [List.length_append,List.length_take];omega
  have l2:((X.drop o).take cs.length).length =cs.length:=by simp only [List.length_take,List.length_drop];omega
  generalize (X.drop o).take cs.length=M at *
  generalize X.drop (o+cs.length)=Z at *
  rw [e1, ←l1,List.take_left, ←List.drop_drop,List.drop_left, ←l2,List.drop_left]
  simp only [List.append_assoc]
theorem Md {α:Type} [Inhabited α] {l l':List α} {i:Int} {x x':α} {e:α→List C} {N o off base:Nat} {c0 c1 cs pre post:List C} (hc0:c0=pre++(l.flatMap e++post)) (hb:pre.length=base) (hc1:c1=pre++(l'.flatMap e++post)) (hl:l'=l.set i.toNat x') (hx:idx l i=some x) (hN: ∀ y,(e y).length =N)
 (hoff:off=base+(i.toNat*N+o)) (ho:o+cs.length≤N) (hx':(e x).take o++(cs++(e x).drop (o+cs.length))=e x'):off+cs.length≤c0.length∧c0.take off++cs++c0.drop (off+cs.length)=c1:=by
 subst hc0 hc1 hl hb
 exact vC hx hN hoff ho hx'
end Go.PL
namespace Go.PL
open Go Go.RowKit
def slots:Nat→Nat→List (Nat×V)→List V
 | 0,_,_=>[]
 | n+1,i,[]=> .undef ::slots n (i+1) []
 | n+1,i,(j,v)::l=>match Nat.beq i j with
   | true=>v::slots n (i+1) l
   | false=> .undef ::slots n (i+1) ((j,v)::l)
def V.isDef:V→Bool
 | .undef =>false
 | _=>true
def uF (st st':St):St:=⟨T7 (st'.tm.map V.isDef) st.tm,st.so.filter (fun e=>st'.so.any fun e'=>e'.id==e.id),T7 (st'.gh.map V.isDef) st.gh,st.pre⟩
def vD (st st':St):Bool:=Nat.beq st'.tm.length st.tm.length&&Nat.beq st'.gh.length st.gh.length
theorem ol {st st':St} (hl:vD st st'=true):Ch st (uF st st'):=by
 simp only [vD,Bool.and_eq_true]at hl
 have a:=(mP (m:=st'.tm.map V.isDef) (l:=st.tm) (by simpa using Nat.eq_of_beq_eq_true hl.1) rfl).get
 have b:=(mP (m:=st'.gh.map V.isDef) (l:=st.gh) (by simpa using Nat.eq_of_beq_eq_true hl.2) rfl).get
 exact⟨a.1,a.2,fun _ he=>(List.mem_filter.1 he).1,fun hn=>List.Sublist.nodup (List.Sublist.map (fun d:AY=>d.id) List.filter_sublist) hn,b,rfl⟩
def Ol (st st':St):Option St:=match vD st st' with
 | true=>some (uF st st')
 | false=>none
theorem Ch.t {st st':St} (h:Ol st st'=some st'):Ch st st':=by
 unfold Ol at h
 split at h
 ·rename_i hl
  injection h with h
  have q:=ol hl
  rw [h]at q
  exact q
 ·cases h
def fk (o:Option (List Prop×St)) (st':St):Option (List Prop×St):=
 match o with
 | some (cs,st)=>match Ol st st' with
   | some s=>some (cs,s)
   | none=>none
 | none=>none
theorem jR {o:Option (List Prop×St)} {st':St} {cs:List Prop} (h:fk o st'=some (cs,st')): ∃ st,o=some (cs,st)∧Ch st st':=by
 unfold fk at h
 split at h
 ·rename_i cs' st
  split at h
  ·rename_i s hs
   simp only [Option.some.injEq,Prod.mk.injEq]at h
   obtain⟨rfl,rfl⟩:=h
   exact⟨st,rfl,Ch.t hs⟩
  ·cases h
 ·cases h
section
variable {P:Program} {F:Fr} {st:St}
theorem Aj.rg {id:Nat} {l:List Oper} {c:Code} {Q:Exit→St→Prop} {ss:List Stp} {cs:List Prop} (st':St) (hr:fk (HF P F.I false l.toArray l ss st) st'=some (cs,st')) (hl:Bb cs) (h:Aj P F c st' Q):Aj P F (.seq (.region id l.toArray false) c) st Q:=by
 obtain⟨st1,h1,h2⟩:=jR hr
 exact Aj.seq (Aj.reg h1 hl (Aj.less h2 h))
end
abbrev vI (n:Int):V:= .c (.int .i64 n)
abbrev vB (b:Bool):V:= .c (.bool b)
abbrev vS (s:List UInt8):V:= .c (.str s)
abbrev vP (i:AC) (o:Nat):V:= .c (.ptr i o)
abbrev vO (i:AC):V:= .c (.osl i)
abbrev vL {α:Type} (e:α→List C) (l:List α):V:= .c (.sl l.length (l.flatMap e))
abbrev vX {α:Type} (e:α→List C) (l:List α) (o:Nat):V:= .c (.iptr (l.flatMap e) o)
abbrev vA {α:Type} (e:α→List C) (x:α):V:= .agg (e x)
abbrev bx (i:AC) (cs:List C):AY:=⟨i,none,cs,false⟩
abbrev Bz {α:Type} (i:AC) (E N:Nat) (e:α→List C) (l:List α):AY:=⟨i,some (E,N,l.length),l.flatMap e,true⟩
end Go.PL
namespace Go.PL
theorem gT {p:Bool} (h:p=true):(p==true)=true:=by subst h;rfl
theorem gF {p:Bool} (h:p=false):(p==false)=true:=by subst h;rfl
theorem gA {p q:Bool} (h:p=true) (k:q=true):(p&&q)=true:=by subst h;subst k;rfl
end Go.PL
namespace Go.PL
open Go Go.RowKit
def St.setCell (st:St) (i:AC) (j:Nat) (c:C):St:={st with so:=st.so.map fun e=>if e.id==i&& !e.pu then⟨e.id,e.row,e.cs.set j c,false⟩else e}
def St.nilAt (st:St) (i:AC) (j:Nat):Bool:=
 match st.look i with
 | some e=> !e.pu&&(match e.cs[j]? with
   | some .nils =>true
   | _=>false)
 | none=>false
theorem O8 {w:World} {G:Bp}: ∀ {cs:List C} {b o j:Nat} {c:C},AE w G cs b o→(∀ v d,cs[j]? =some d→As w G d v→As w G c v)→AE w G (cs.set j c) b o
 | [],_,_,_,_,h,_=>by simpa using h
 | d::cs,b,o,0,c,h,hc=>by
   simp only [AE]at h
   simp only [List.set_cons_zero,AE]
   obtain⟨⟨v,h1,h2⟩,h3⟩:=h
   exact⟨⟨v,h1,hc v d (by simp) h2⟩,h3⟩
 | d::cs,b,o,j+1,c,h,hc=>by
   simp only [AE]at h
   simp only [List.set_cons_succ,AE]
   exact⟨h.1,O8 h.2 (fun v d hd=>hc v d (by simpa using hd))⟩
theorem R.setCell {F:Fr} {st:St} {a:Act} {w:World} {G:Bp} (h:R F st a w G) {i k:AC} {j:Nat} (hn:st.nilAt i j=true) (hk:G.own k=some (.slice none 0 0)):R F (st.setCell i j (.osl k)) a w G:={
 dfr:=h.dfr,size:=h.size,slots:=h.slots,ghosts:=h.ghosts
 store:=by
  intro e' he'
  simp only [St.setCell,List.mem_map]at he'
  obtain⟨e,he,rfl⟩:=he'
  split
  ·rename_i hc
   simp only [Bool.and_eq_true,beq_iff_eq,Bool.not_eq_true']at hc
   have hE:=h.store e he
   have hee: ∃ x,st.look i=some x∧x=e:=by
    unfold St.nilAt at hn
    cases hl:st.look i with
    | none=>rw [hl]at hn;cases hn
    | some x=>
      refine⟨x,rfl,?_⟩
      obtain⟨hm,hid⟩:=Ct hl
      have hp:=List.pairwise_map.1 h.nodup
      rcases List.mem_iff_getElem.1 hm with ⟨p,hp1,rfl⟩
      rcases List.mem_iff_getElem.1 he with ⟨q,hq1,rfl⟩
      rcases Nat.lt_trichotomy p q with z | z | z
      ·exact absurd (hid.trans hc.1.symm) (List.pairwise_iff_getElem.1 hp p q hp1 hq1 z)
      ·subst z;rfl
      ·exact absurd (hc.1.trans hid.symm) (List.pairwise_iff_getElem.1 hp q p hq1 hp1 z)
   obtain⟨x,hx,rfl⟩:=hee
   have hnil:x.cs[j]? =some .nils :=by
    unfold St.nilAt at hn
    rw [hx]at hn
    simp only [Bool.and_eq_true]at hn
    have:=hn.2
    split at this
    ·assumption
    ·cases this
   have hc': ∀ v d,x.cs[j]? =some d→As w G d v→As w G (.osl k) v:=by
    intro v d hd hr
    rw [hnil]at hd
    injection hd with hd;subst hd
    simp only [As]at hr ⊢
    subst hr
    exact⟨hk,rfl⟩
   unfold Ck at hE ⊢
   simp only
   split at hE
   ·rename_i hrn
    obtain⟨b,h1,hbx⟩:=hE
    obtain⟨T,cur,h2,h3,h4⟩:=hbx.cells (Vw hx hrn)
    exact⟨b,h1, .inr ⟨T,cur,h2,by simpa using h3,O8 h4 hc'⟩⟩
   ·obtain⟨hl,v,h1,h2⟩:=hE
    refine⟨by simpa using hl,v,h1,?_⟩
    rcases h2 with h2 | ⟨b,cap,cur,e1,e2,e3,e4,e5,e6,e7⟩
    ·exact .inl h2
    ·exact .inr ⟨b,cap,cur,e1,e2,e3,e4,e5,e6,O8 e7 hc'⟩
  ·exact h.store e he
 deep:=by
  intro e' he'
  simp only [St.setCell,List.mem_map]at he'
  obtain⟨e,he,rfl⟩:=he'
  split
  ·rename_i hc
   simp only [Bool.and_eq_true,beq_iff_eq,Bool.not_eq_true']at hc
   exact⟨(h.deep e he).1,fun hq=>absurd ((h.deep e he).2 hq).1 (by simp [hc.2])⟩
  ·exact h.deep e he
 pures:=by
  intro e' he'
  simp only [St.setCell,List.mem_map]at he'
  obtain⟨e,he,rfl⟩:=he'
  split
  ·intro hq;cases hq
  ·exact h.pures e he
 nodup:=by
  have:((st.setCell i j (.osl k)).so.map (·.id))=st.so.map (·.id):=by
   simp only [St.setCell,List.map_map]
   apply List.map_congr_left
   intro d _
   simp only [Function.comp]
   split<;>rfl
  rw [this];exact h.nodup
 inj:=h.inj,lt:=h.lt,new:=h.new,wr:=h.wr,avlt:=h.avlt,inv:=h.inv,avold:=h.avold,os:=h.os,tape:=h.tape,output:=h.output,hsize:=h.hsize,ext:=h.ext}
def jS (st:St) (i:AC) (j:Nat) (k:AC) (E n:Nat):Option St:=
 match (st.new ⟨k,some (E,n,0),[],true⟩).nilAt i j with
 | true=>some ((st.new ⟨k,some (E,n,0),[],true⟩).setCell i j (.osl k))
 | false=>none
theorem Aj.own {P:Program} {F:Fr} {c:Code} {st:St} {Q:Exit→St→Prop} (i:AC) (j:Nat) (k:AC) (E n:Nat) (st':St) (h:jS st i j k E n=some st') (hh:Aj P F c st' Q):Aj P F c st Q:=by
 unfold jS at h
 split at h
 ·rename_i hn
  injection h with h;subst h
  intro a w G hR
  have h1:=hR.nilRow k E n
  exact hh a w _ (h1.setCell hn (by simp [Ep]))
 ·cases h
end Go.PL
namespace Go.PL
open Go
theorem Af {x:Int} (h0: -9223372036854775808≤x) (h1:x≤9223372036854775807):Ac x=x:=by
 unfold Ac;rw [IntKind.wrap_i64];omega
theorem Ws {x:Int} (h0:0≤x) (h1:x≤18446744073709551615):IntKind.u64.wrap x=x:=by
 unfold IntKind.wrap
 simp only [IntKind.bits,IntKind.signed,Bool.false_and]
 simp
 omega
theorem om {x:Int} (h0:0≤x) (h1:x≤255):IntKind.u8.wrap x=x:=by
 unfold IntKind.wrap
 simp only [IntKind.bits,IntKind.signed,Bool.false_and]
 simp
 omega
theorem Ae (x:Int):0≤IntKind.u64.wrap x∧IntKind.u64.wrap x≤18446744073709551615:=by
 unfold IntKind.wrap
 simp only [IntKind.bits,IntKind.signed,Bool.false_and]
 simp
 omega
section
variable {σ ρ:Type} {B:σ→Option (σ⊕ρ)}
theorem mR {n:Nat} {s s':σ} (h:B s=some (.inl s')):iter B (n+1) s=iter B n s':=by simp [iter,h]
theorem Wt {n:Nat} {s:σ} {r:ρ} (h:B s=some (.inr r)):iter B (n+1) s=some r:=by simp [iter,h]
end
section
variable {α:Type} [Inhabited α] {l:List α} {i:Int}
theorem fl (h:0≤i∧i<l.length):idx l i=some (l.getD i.toNat default):=if_pos h
theorem th (o:Option α):gd true o=o:=if_pos rfl
end
theorem fo {α:Type} {b:Nat} {l m:List α} (h:(l.length+m.length)*b≤140737488355328∧l.length+m.length≤maxLen):app b l m=some (l++m):=if_pos h
theorem fp {a b:List UInt8} (h:a.length+b.length≤maxLen):cat a b=some (a++b):=if_pos h
theorem Sc {p:Prop} [Decidable p] (h:p):need p=some ():=if_pos h
def ti (n:Int):UInt8:=UInt8.ofNat (48+(n.toNat % 10))
theorem ce (k u:Nat) (h:u<10 ^ (k+1)):(Lib.decDigits u).length ≤k+1:=by
 induction k generalizing u with
 | zero=>rw [Lib.decDigits,dif_pos (by omega)];simp
 | succ k ih=>
   rw [Lib.decDigits]
   split
   ·simp
   ·have:=ih (u / 10) (by rw [Nat.pow_succ]at h;omega)
    simp;omega
theorem fq {u:Int} (h0:0≤u):Lib.decDigits u.toNat=(if u / 10=0 then [] else Lib.decDigits (u / 10).toNat)++[ti u]:=by
 conv=>lhs;rw [Lib.decDigits]
 by_cases h:u.toNat<10
 ·rw [dif_pos h,if_pos (by omega),ti,Nat.mod_eq_of_lt h];rfl
 ·have e:u.toNat / 10=(u / 10).toNat :=by omega
  rw [dif_neg h,if_neg (by omega),ti,e]
def oo (u:Int) (s:List UInt8):Option ((Int×(List UInt8))⊕((List UInt8))):=
 (if(decide ((0:Int)<u))=true then
  (need (∀ n∈([IntKind.u8.wrap (IntKind.u64.wrap ((48:Int)+(Int.tmod u (10:Int))))]:List (Int)),0≤n∧n<256)).bind fun _=>
  (cat (HG ([IntKind.u8.wrap (IntKind.u64.wrap ((48:Int)+(Int.tmod u (10:Int))))]:List (Int))) s).bind fun s12=>
  some (.inl ((IntKind.u64.wrap (Int.tdiv u (10:Int))),s12))
 else
  some (.inr s))
def jT (a0:Int):Option ((List UInt8)):=
 (need (∀ n∈([IntKind.u8.wrap (IntKind.u64.wrap ((48:Int)+(Int.tmod a0 (10:Int))))]:List (Int)),0≤n∧n<256)).bind fun _=>
 (iter (fun(v:Int×(List UInt8))=>oo v.1 v.2) FU ((IntKind.u64.wrap (Int.tdiv a0 (10:Int))),(HG ([IntKind.u8.wrap (IntKind.u64.wrap ((48:Int)+(Int.tmod a0 (10:Int))))]:List (Int))))).bind (fun o0=>some o0)
theorem mS {u:Int} (h0:0≤u) (h1:u≤18446744073709551615):IntKind.u8.wrap (IntKind.u64.wrap ((48:Int)+(Int.tmod u (10:Int))))=48+((u.toNat % 10:Nat):Int):=by
 have e:Int.tmod u 10=((u.toNat % 10:Nat):Int):=by
  rw [Int.tmod_eq_emod_of_nonneg h0];omega
 rw [e,Ws (by omega) (by omega),om (by omega) (by omega)]
theorem mT {u:Int} (h0:0≤u) (h1:u≤18446744073709551615):IntKind.u64.wrap (Int.tdiv u (10:Int))=u / 10:=by
 rw [Int.tdiv_eq_ediv_of_nonneg h0,Ws (by omega) (by omega)]
theorem ft {u:Int} (h0:0≤u) (h1:u≤18446744073709551615): ∀ n∈([IntKind.u8.wrap (IntKind.u64.wrap ((48:Int)+(Int.tmod u (10:Int))))]:List (Int)),0≤n∧n<256:=by
 rw [mS h0 h1]
 intro n hn
 simp at hn
 omega
theorem ZR {u:Int} (h0:0≤u) (h1:u≤18446744073709551615):HG ([IntKind.u8.wrap (IntKind.u64.wrap ((48:Int)+(Int.tmod u (10:Int))))]:List (Int))=[ti u]:=by
 rw [mS h0 h1]
 simp only [HG,ti,List.map_cons,List.map_nil]
 congr 2
theorem tj {u:Int} {s:List UInt8} (h0:0<u) (h1:u≤18446744073709551615) (hs:s.length≤1000):oo u s=some (.inl (u / 10,ti u::s)):=by
 unfold oo
 rw [if_pos (by simpa using h0),Sc (ft (by omega) h1),ZR (by omega) h1,fp (by simp [maxLen];omega),mT (by omega) h1]
 rfl
theorem fu (s:List UInt8):oo 0 s=some (.inr s):=by simp [oo]
theorem fv: ∀ (k:Nat) (u:Int) (s:List UInt8) (N:Nat),0≤u→u<10 ^ k→u≤18446744073709551615→s.length+k≤1000→k<N→
 iter (fun(v:Int×(List UInt8))=>oo v.1 v.2) N (u,s)=some ((if u=0 then [] else Lib.decDigits u.toNat)++s)
 | 0,u,s,N+1,h0,h1,h2,hs,hN=>by
   obtain rfl:u=0:=by simp at h1;omega
   rw [Wt (r:=s) (fu s)];rfl
 | k+1,u,s,N+1,h0,h1,h2,hs,hN=>by
   by_cases hu:u=0
   ·subst hu;rw [Wt (r:=s) (fu s)];rfl
   ·rw [mR (s':=(u / 10,ti u::s)) (tj (by omega) h2 (by show s.length≤1000;omega)),fv k (u / 10) (ti u::s) N (by omega) (by rw [Int.pow_succ]at h1;omega) (by omega) (by simp;omega) (by omega)]
    rw [if_neg hu]
    congr 1
    rw [fq (u:=u) h0,List.append_assoc];rfl
theorem oq {u:Int} (h0:0≤u) (h1:u≤18446744073709551615):jT u=some (Lib.decDigits u.toNat):=by
 unfold jT
 rw [Sc (ft h0 h1),ZR h0 h1,mT h0 h1]
 simp only [Option.bind_some]
 rw [fv 20 (u / 10) [ti u] FU (by omega) (by omega) (by omega) (by simp) (by simp [FU])]
 simp only [Option.bind_some]
 congr 1
 exact(fq h0).symm
end Go.PL
