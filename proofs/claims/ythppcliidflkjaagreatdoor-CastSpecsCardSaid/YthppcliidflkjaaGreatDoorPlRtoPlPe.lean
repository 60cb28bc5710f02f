/- The pure logic: PlR, PlU, PlW, PlS, PlT, PlV, PlX, PlXd, PlXe, PlXf, PlY, PlZ, PlPe. -/
import Derived.Test.YthppcliidflkjaaGreatDoorPlAtoPlQ
import Derived.LoopN
import Derived.ProofKit
import Derived.OpenShut
import Derived.Handy
import Derived.Lay
import Derived.LaidSub
import Derived.SevenTiedAt
import Derived.Lib.LaidTab
set_option linter.all false
namespace Go.PL
open Go Go.RowKit
def Vk:List V→List V→Prop
 | [],[]=>True
 | a::l,b::m=>(b= .undef ∨b=a)∧Vk l m
 | _,_=>False
theorem Vk.get: ∀ {l m:List V},Vk l m→m.length=l.length∧ ∀ i,m.getD i .undef = .undef ∨m.getD i .undef =l.getD i .undef
 | [],[],_=>(by grind)
 | a::l,b::m,h=>by
   obtain⟨h1,h2⟩:=h
   obtain⟨q1,q2⟩:=Vk.get h2
   refine⟨by simp [q1],fun i=>?_⟩
   cases i with
   | zero=>simpa using h1
   | succ i=>simpa using q2 i
 | [],_::_,h=>h.elim
 | _::_,[],h=>h.elim
theorem fV (a b:Nat):(([a]:List Nat)==[b])=(a==b):=by grind
theorem fW (a b:Nat):(([a]:List Nat) != [b])=(a != b):=by grind
theorem cj (a b c d:Nat):(([a,c]:List Nat)==[b,d])=(a==b&&c==d):=by grind
theorem jW (a b:Nat):(([a]:List Nat)=[b])=(a=b):=by simp
theorem Vl (z:List C):Bj z 0=[]:=by simp [Bj]
theorem MQ (z:List C) (k:Nat):Bj z (k+1)=z++Bj z k:=by
 unfold Bj
 have e:(k+1)*z.length=z.length+k*z.length:=by grind
 rw [e,List.range_add,List.map_append]
 congr 1
 ·apply List.ext_getElem<;>simp
  grind [Nat.mod_eq_of_lt]
 simp_all
theorem S7 (k:IntKind) (l:List Int):Aj (l.map (C.int k))=true:=IK _ (fun _=>rfl) l
theorem S8 (l:List (List UInt8)):Aj (l.map C.str)=true:=IK _ (fun _=>rfl) l
theorem QK (l:List Bool):Aj (l.map C.bool)=true:=IK _ (fun _=>rfl) l
theorem Id {g:C→C} (hg: ∀ c:C,c.pure=true→g c=c): ∀ {l:List C},Aj l=true→l.map g=l
 | [],_=>rfl
 | c::l,h=>by
   simp only [Aj,Bool.and_eq_true]at h
   rw [List.map_cons,hg c h.1,Id hg h.2]
theorem Xg (id:Ae) {c:C} (h:c.pure=true):EL id c=c:=by simp [EL,GT id c h]
theorem Xh {l:List C} (id:Ae) (h:Aj l=true):l.map (EL id)=l:=Id (fun _ hc=>Xg id hc) h
theorem Z3 {id:Ae} {len:Nat} {cs:List C} {c:C} (h:c.pure=true):Gm id len cs c=c:=by
 cases c<;>simp_all [Gm,C.pure,AE]
theorem Z4 {id:Ae} {len:Nat} {cs:List C} {l:List C} (h:Aj l=true):l.map (Gm id len cs)=l:=Id (fun _ hc=>Z3 hc) h
theorem Z5 {c:C} (h:c.pure=true):KG c=[]:=by cases c<;>simp_all [KG,C.pure]
theorem RG: ∀ {l:List C},Aj l=true→l.flatMap KG=[]
 | [],_=>rfl
 | c::l,h=>by
   simp only [Aj,Bool.and_eq_true]at h
   rw [List.flatMap_cons,Z5 h.1,RG h.2];rfl
attribute [go_sem] Bb S7 S8 QK Xh Z4 RG AE
attribute [go_sem] fV fW cj jW Vl MQ Nat.reduceLeDiff Nat.reduceLT Nat.le_refl Nat.reduceBEq Nat.reduceBNe Nat.reduceMul Nat.reduceAdd Nat.reduceSub
end Go.PL
namespace Go.PL
open Go Go.RowKit
section
variable {P:Program} {F:Fr} {st:St} {c:Code} {Q:Exit→St→Prop}
end
end Go.PL
namespace Go.PL
open Go Go.RowKit
def NR (st:St) (x:Operand):Option (FuncId×List C):=
 match st.ev x with
 | .c (.fn f)=>some (f,[])
 | .c (.clo f cs)=>some (f,cs)
 | _=>none
def St.enter (st:St) (k:Nat) (args:List V) (n:Nat):St:=⟨args++List.replicate (n - args.length) .undef,st.so,st.tm++st.gh,k::st.pre⟩
def St.back (st:St) (m:Nat) (pre:Ae) (d:Option Nat) (r:V):St:=(⟨st.gh.take m,st.so,st.gh.drop m,pre⟩:St).put d r
def I7 (P:Program) (st:St):ResultVar→Prop×V
 | .tmp t=>(True,st.get t)
 | .cell t T=>Cy P T st (st.get t)
def CQ (P:Program) (st:St):List ResultVar→Prop×List V
 | []=>(True,[])
 | x::xs=>((I7 P st x).1∧(CQ P st xs).1,(I7 P st x).2::(CQ P st xs).2)
def Cu (P:Program) (st:St):List ResultVar→Prop×V
 | [x]=>I7 P st x
 | xs=>((CQ P st xs).1, .tup (CQ P st xs).2)
section
variable {P:Program} {F:Fr} {st:St} {a:Act} {w:World} {G:Au}
theorem OA (h:R F st a w G) {x:ResultVar} (hs:(I7 P st x).1): ∃ v,(DU a.tmps x).run P w= .ok v w∧Ab w G (I7 P st x).2 v:=by
 cases x with
 | tmp t=>exact⟨_,rfl,h.slots t⟩
 | cell t T=>
   simp only [I7]at hs ⊢
   obtain⟨v,q1,q2⟩:=H8 (P:=P) h (h.slots t) hs
   obtain⟨p,hptr⟩:=RF (h.slots t) hs
   refine⟨v,?_,q1⟩
   grind [BY.refl,DU,asAddr,Instr.loadAt,Instr.sureAddr]
theorem MR (h:R F st a w G): ∀ {xs:List ResultVar},(CQ P st xs).1→ ∃ vs,(xs.mapM (DU a.tmps)).run P w= .ok vs w∧An w G (CQ P st xs).2 vs
 | [],_=>(by simp_all [CQ,An])
 | x::xs,hs=>by
   simp only [CQ]at hs ⊢
   obtain⟨v,q1,q2⟩:=OA h hs.1
   obtain⟨vs,k1,k2⟩:=MR h hs.2
   exact⟨v::vs,by simp_all,by simp only [An];grind⟩
theorem Z6 {xs:List ResultVar}:(CQ P st xs).2.length =xs.length:=by
 induction xs<;>grind [CQ]
theorem KJ (h:R F st a w G) {fn:Func} (hs:(Cu P st fn.results.toList).1): ∃ v,(results fn a.tmps).run P w= .ok v w∧Ab w G (Cu P st fn.results.toList).2 v:=by
 generalize hx:fn.results.toList=xs at hs ⊢
 match xs,hx,hs with
 | [x],hx,hs=>
   simp only [Cu]at hs ⊢
   obtain⟨v,q1,q2⟩:=OA h hs
   exact⟨v,by have:=Cr (P:=P) (w:=w) (fn:=fn) (tmps:=a.tmps) (vs:=[v]) (by rw [hx];simp [q1]);grind,q2⟩
 | [],hx,hs=>
   simp_all [Cu,CQ,Ab,An,Cr]
 | x::y::xs,hx,hs=>
   simp only [Cu]at hs ⊢
   obtain⟨vs,q1,q2⟩:=MR h hs
   refine⟨.tuple vs.toArray,?_,by simp only [Ab];grind⟩
   have:=Cr (P:=P) (w:=w) (fn:=fn) (tmps:=a.tmps) (by rw [hx];exact q1)
   rw [this]
   have hl:=C8 q2
   rw [Z6]at hl
   match vs,hl with
   | v::u::vs,_=>rfl
theorem Fn {w:World} {G:Au}: ∀ {xs ys:List V} {us vs:List Value},An w G xs us→An w G ys vs→An w G (xs++ys) (us++vs)
 | [],_,us,_,h,h'=>by grind [An]
 | x::xs,ys,us,vs,h,h'=>by
   simp only [An]at h
   obtain⟨v,r,rfl,h1,h2⟩:=h
   simp only [List.cons_append,An]
   exact⟨v,r++vs,rfl,h1,Fn h2 h'⟩
theorem MS {w:World} {G:Au}: ∀ {xs:List V} {us vs:List Value},An w G xs (us++vs)→An w G (xs.take us.length) us∧An w G (xs.drop us.length) vs
 | xs,[],vs,h=>(by grind [An])
 | [],u::us,vs,h=>by simp [An]at h
 | x::xs,u::us,vs,h=>by
   simp only [List.cons_append,An]at h
   obtain⟨v,r,e,h1,h2⟩:=h
   injection e with e1 e2;subst e1 e2
   obtain⟨k1,k2⟩:=MS h2
   simp only [List.length_cons,List.take_succ_cons,List.drop_succ_cons,An]
   grind
theorem Ie {w:World} {G:Au}: ∀ {xs:List V} {us:List Value},xs.length=us.length→(∀ i,Ab w G (xs.getD i .undef) (us.getD i Go.undef))→An w G xs us
 | [],[],_,_=>by simp [An]
 | x::xs,u::us,hl,h=>by
   simp only [An]
   exact⟨u,us,rfl,by simpa using h 0,Ie (by grind) (fun i=>by simpa using h (i+1))⟩
 | [],_::_,hl,_=>by simp at hl
 | _::_,[],hl,_=>by simp at hl
theorem LQ {w:World} {G:Au}: ∀ {cs:List C} {us:List Value},Ag w G cs us→An w G (cs.map V.c) us
 | [],[],_=>by simp [An]
 | c::cs,u::us,h=>by
   simp only [Ag]at h
   simp only [List.map_cons,An]
   exact⟨u,us,rfl,by grind [Ab],LQ h.2⟩
 | [],_::_,h=>by simp [Ag]at h
 | _::_,[],h=>by simp [Ag]at h
theorem R.enter (h:R F st a w G) (k:Nat) {args:List V} {us:Array Value} (ha:An w G args us.toList) (n:Nat):
 R {F with gv:=a.tmps.toList++F.gv} (st.enter k args n) {tmps:=us++Array.replicate (n - us.size) Go.undef,defers:=[]} w G:=by
 have hl:=C8 ha
 have hl':args.length=us.size:=by grind
 exact {
  dfr:=rfl
  size:=by simp [St.enter,hl']
  slots:=by
   intro i
   simp only [St.enter,List.getD_eq_getElem?_getD,Array.getD_eq_getD_getElem?]
   by_cases hi:i<args.length
   ·grind [Fq]
   grind [Ab]
  ghosts:=Fn (Ie (by simpa using h.size.symm) (fun i=>by
   have:=h.slots i
   simp_all)) h.ghosts
  store:=h.store,deep:=h.deep,pures:=h.pures,nodup:=h.nodup,inj:=h.inj,lt:=h.lt,new:=h.new,wr:=h.wr,avlt:=h.avlt,inv:=h.inv,avold:=h.avold
  os:=h.os,tape:=h.tape,output:=h.output,hsize:=h.hsize,ext:=h.ext}
theorem Xi {w:World} {G:Au} {xs:List V} {us:List Value} (h:An w G xs us) (i:Nat):Ab w G (xs.getD i .undef) (us.getD i Go.undef):=by
 grind [Fq,Ab]
theorem R.back {a':Act} {st':St} (hd:a.defers=[]) {gv:List Value} (hgv:F.gv=a.tmps.toList++gv) (h:R F st' a' w G) {m:Nat} (hm:m=a.tmps.size) (pre:Ae):R {F with gv:=gv} ⟨st'.gh.take m,st'.so,st'.gh.drop m,pre⟩ a w G:=by
 have hg:=h.ghosts
 rw [hgv]at hg
 obtain⟨h1,h2⟩:=MS hg
 have e:a.tmps.toList.length=m:=by simp [hm]
 rw [e]at h1 h2
 exact {
  dfr:=hd
  size:=by grind [C8]
  slots:=fun i=>by
   have:=Xi h1 i
   simp_all
  ghosts:=h2
  store:=h.store,deep:=h.deep,pures:=h.pures,nodup:=h.nodup,inj:=h.inj,lt:=h.lt,new:=h.new,wr:=h.wr,avlt:=h.avlt,inv:=h.inv,avold:=h.avold
  os:=h.os,tape:=h.tape,output:=h.output,hsize:=h.hsize,ext:=h.ext}
end
def mA (P:Program) (rs:List ResultVar) (m:Nat) (pre:Ae) (d:Option Nat) (K:St→Prop):Exit→St→Prop
 | .normal,st=>(Cu P st rs).1∧K (st.back m pre d (Cu P st rs).2)
 | .ret,st=>(Cu P st rs).1∧K (st.back m pre d (Cu P st rs).2)
 | _,_=>False
theorem Dk.inline {P:Program} {I:World→Prop} {o:Oper} {st:St} {K:St→Prop} {x:Operand} {xs:List Operand} {c:Call} {s:Prop} {vs:List V} {f:FuncId} {cs:List C} {fn:Func} {body:Code} {n:Nat} {rs:List ResultVar} (k:Nat)
 (ho:o.op= .call c) (hcal:c.callee= .value x) (hxs:c.args.toList=xs) (ha:st.args true xs=(s,vs)) (hs:s) (hf:NR st x=some (f,cs)) (hent:ent P f=true) (hfn:P.funcs[f]? =some fn) (hb:fn.body=some body) (hn:fn.ntmps=n) (hr:fn.results=rs.toArray)
 (h: ∀ w0 av old gv,Ah P ⟨w0,av,old,I,gv⟩ body (st.enter k (vs++cs.map V.c) n) (mA P rs st.tm.length st.pre o.dst K)):Dk P I o st K:=by
 intro F a w G Q hI hR
 have hargs:An w G vs (xs.map a.eval):=by
  have:=hR.args (g:=true) rfl (xs:=xs) (by grind)
  grind
 obtain⟨arr,hev,hcs⟩: ∃ arr:Array Value,a.eval x= .func (.func f) #[] arr∧Ag w G cs arr.toList:=by
  have hx:=hR.ev x
  unfold NR at hf
  split at hf
  ·rename_i f' he
   rw [he]at hx
   simp only [Option.some.injEq,Prod.mk.injEq]at hf
   obtain⟨rfl,rfl⟩:=hf
   grind [Ab,Ac,Ag]
  ·rename_i f' cs' he
   rw [he]at hx
   simp only [Option.some.injEq,Prod.mk.injEq]at hf
   obtain⟨rfl,rfl⟩:=hf
   grind [Ab,Ac]
  ·cases hf
 have hrun:(execOp a.eval o).run P w= .ok (.enter f ((xs.map a.eval).toArray ++arr)) w:=by
  have e:c.args.map a.eval=(xs.map a.eval).toArray :=by grind
  grind [execOp,resolve,Deferred.ofValue,invoke,run_callFunc']
 unfold Oper.wp Oper.upon
 rw [hrun]
 simp only
 obtain⟨w0,av,old,I',gv⟩:=F
 simp only at hI;subst hI
 have hall:An w G (vs++cs.map V.c) ((xs.map a.eval).toArray ++arr).toList :=by
  grind [Fn,LQ]
 refine calls_of_wp hfn hb ?_
 have hR0:=hR.enter k hall fn.ntmps
 rw [hn]at hR0
 rw [hn]
 refine Code.wp_mono (fun e a' w' ⟨st',G',q,hR'⟩=>?_) (h _ _ _ _ _ _ _ hR0)
 have hrs:fn.results.toList=rs:=by rw [hr]
 have fin:(Cu P st' rs).1∧K (st'.back st.tm.length st.pre o.dst (Cu P st' rs).2)→
  a'.defers=[]∧ ∃ v,(results fn a'.tmps).run P w'= .ok v w'∧U2 ⟨w0,av,old,I',gv⟩ K (a.put o.dst v) w':=by
  intro ⟨q1,q2⟩
  rw [←hrs]at q1 q2
  obtain⟨v,k1,k2⟩:=KJ hR' (fn:=fn) q1
  refine⟨hR'.dfr,v,k1,_,G',q2,?_⟩
  exact(R.back hR.dfr rfl hR' hR.size.symm st.pre).put k2
 cases e<;>simp only [mA]at q<;>first | exact fin q | exact q.elim
end Go.PL
namespace Go.PL
open Go Go.RowKit Go.ChangeShapes Go.WideShapes
theorem Je {H:Type} {enc:TypeId×Value→H} {P:Program} (hl:laidOutB P=true) {W W':World} (hb:Below W.heap.size W W'):
 ∀ {ts:List TypeId} {vs:List Value} {ds:List (DataW H)} {ps:List MemPlace},(ts.all fun t=>P.readableRec t&&decide (t<P.types.size))=true→DataW.TrodAll enc P W 0 (fun _=>true) true ts vs ds ps→(∀ x∈ps,x.block<W.heap.size)→
   DataW.TrodAll enc P W' 0 (fun b=>decide (b<W.heap.size)) true ts vs ds ps
 | [],_,_,_,_,h,_=>by
   obtain⟨rfl,rfl,rfl⟩:=trodAll_nil h
   exact trodAll_mk0
 | t::ts,_,_,_,hr,h,hlt=>by
   obtain⟨v,vs1,d,ds1,a,b,rfl,rfl,rfl,h1,h2⟩:=trodAll_cons h
   simp only [List.all_cons,Bool.and_eq_true,decide_eq_true_eq]at hr
   exact⟨a,b,(by grind [Below.trod]),Je hl hb hr.2 h2 (fun x hx=>hlt x (by simp [hx])),rfl⟩
theorem Bp.law {P:Program} {I:World→Prop} {f:FuncId} {xs:List V} (h:Bp P I f xs (· = .c (.bool true))) {W:World} (hI:I W) {args:Array Value} (ha:An W (im fun _=>False) xs args.toList):
 Calls P f args W fun e W'=>e= .returned (.bool true)∧Below W.heap.size W W':=by
 refine(h.run W args (fun _=>False) hI (fun _ h=>h.elim) ha).mono fun e W' ⟨v,r,he,hr,_,hv,hb⟩=>⟨?_,hb⟩
 grind [Ab,Ac]
end Go.PL
namespace Go.PL
open Go Go.RowKit Go.ChangeShapes Go.WideShapes
def LR (R:TypeId→List C→Prop):List TypeId→List (List C)→Prop
 | [],Ch=>Ch=[]
 | t::ts,Ch=> ∃ ds r,Ch=ds::r∧R t ds∧LR R ts r
def AU (P:Program):Nat→TypeId→List C→Prop
 | 0,_,_=>False
 | n+1,t,cs=>match P.underlying t with
   | some .bool => ∃ b,cs=[.bool b]
   | some (.int k)=> ∃ z,cs=[.int k z]∧(Lit.int k z).wf =true
   | some .string => ∃ s:List UInt8,cs=[.str s]∧s.length≤reachBytes
   | some (.slice e)=> ∃ Ch:List (List C),cs=[.sl Ch.length Ch.flatten]∧Ch.length*P.bytesOf e≤reachBytes∧ ∀ ds∈Ch,AU P n e ds
   | some (.struct fs)=> ∃ Ch:List (List C),cs=Ch.flatten∧LR (AU P n) (fs.toList.map (·.type)) Ch
   | some (.array m e)=> ∃ Ch:List (List C),cs=Ch.flatten∧Ch.length=m∧ ∀ ds∈Ch,AU P n e ds
   | some (.pointer e)=>cs=[.nilp]∨ ∃ ds,cs=[.iptr ds 0]∧AU P n e ds
   | some (.interface _)=>cs=[.niface]∨cs=[.held]
   | _=>False
theorem EH: ∀ {Ch:List (List C)},(∀ ds∈Ch,Aj ds=true)→Aj Ch.flatten=true
 | [],_=>rfl
 | ds::Ch,h=>by rw [List.flatten_cons,Bb,h ds (by simp),EH (fun d hd=>h d (by simp [hd]))];rfl
theorem RH {R:TypeId→List C→Prop} (hR: ∀ t ds,R t ds→Aj ds=true): ∀ {ts:List TypeId} {Ch:List (List C)},LR R ts Ch→ ∀ ds∈Ch,Aj ds=true
 | [],Ch,h,ds,hd=>by grind [LR]
 | t::ts,Ch,h,ds,hd=>by
   simp only [LR]at h
   obtain⟨d,r,rfl,h1,h2⟩:=h
   rcases List.mem_cons.1 hd with rfl | hd
   ·exact hR t _ h1
   ·exact RH hR h2 ds hd
theorem HB {P:Program}: ∀ {n:Nat} {t:TypeId} {cs:List C},AU P n t cs→Aj cs=true
 | 0,_,_,h=>h.elim
 | n+1,t,cs,h=>by
   unfold AU at h
   split at h
   ·obtain⟨b,rfl⟩:=h;rfl
   ·obtain⟨z,rfl,_⟩:=h;rfl
   ·obtain⟨s,rfl,_⟩:=h;rfl
   ·obtain⟨Ch,rfl,_⟩:=h;rfl
   ·obtain⟨Ch,rfl,h2⟩:=h;exact EH (RH (fun t ds h=>HB h) h2)
   ·obtain⟨Ch,rfl,_,h2⟩:=h;exact EH (fun ds hd=>HB (h2 ds hd))
   ·rcases h with rfl | ⟨ds,rfl,_⟩<;>rfl
   ·rcases h with rfl | rfl<;>rfl
   grind
section
variable {H:Type} {enc:TypeId×Value→H} {P:Program} {w:World} {spare:Nat→Bool}
theorem OB {G:Au}: ∀ {a b:List C} {u v:List Value},Ag w G a u→Ag w G b v→Ag w G (a++b) (u++v)
 | [],_,[],_,_,h=>h
 | _::_,_,_::_,_,h,h'=>by simp only [Ag]at h;simp only [List.cons_append,Ag];exact⟨h.1,OB h.2 h'⟩
 | [],_,_::_,_,h,_=>by simp [Ag]at h
 | _::_,_,[],_,h,_=>by simp [Ag]at h
theorem Vm {G:Au}: ∀ {a:List C} {u:List Value},Ag w G a u→a.length=u.length
 | [],[],_=>rfl
 | _::_,_::_,h=>by simp only [Ag]at h;simp [Vm h.2]
 | [],_::_,h=>by simp [Ag]at h
 | _::_,[],h=>by simp [Ag]at h
theorem LS {G:Au} {b:Nat}: ∀ {cs:List C} {ds:List Value} {o:Nat},Ag w G cs ds→(∀ j,j<ds.length→w.cell? ⟨b,o+j,none⟩=ds[j]?)→Ai w G cs b o
 | [],_,_,_,_=>by simp [Ai]
 | c::cs,d::ds,o,h,hc=>by
   simp only [Ag]at h
   simp only [Ai]
   refine⟨⟨d,by simpa using hc 0 (by simp),h.1⟩,LS h.2 (fun j hj=>?_)⟩
   have:=hc (j+1) (by simp;omega)
   simpa [Nat.add_assoc,Nat.add_comm 1 j] using this
 | _::_,[],_,h,_=>by simp [Ag]at h
theorem OC {G:Au} {b:Nat}: ∀ {cs cs':List C} {o:Nat},Ai w G cs b o→Ai w G cs' b (o+cs.length)→Ai w G (cs++cs') b o
 | [],_,_,_,h=>by grind
 | c::cs,cs',o,h,h'=>by
   simp only [Ai]at h
   simp only [List.cons_append,Ai]
   exact⟨h.1,OC h.2 (by simpa [Nat.add_assoc,Nat.add_comm 1] using h')⟩
theorem Vn {a:Addr} {n:Nat} {cs:List Value} (hn:0<n) (h:w.cells? 0 a n=some cs):a=⟨a.block,a.off,none⟩∧a.block<w.heap.size∧cs.length=n∧ ∀ j,j<n→w.cell? ⟨a.block,a.off+j,none⟩=cs[j]? :=by
 obtain⟨_,hl,hc⟩:=World.cells?_some h
 have h0:=hc 0 hn
 obtain⟨b,o,sp⟩:=a
 have hsp:sp=none:=by
  cases sp with
  | none=>rfl
  | some x=>
    have e:cs[0]? =some cs[0]:=by grind
    rw [e]at h0
    simp only [Addr.add,if_true]at h0
    grind [World.cell?]
 subst hsp
 refine⟨rfl,World.cells?_block h hn,hl,fun j hj=>?_⟩
 grind [Addr.add]
def fX (P:Program):Nat→List Field→Bool
 | _,[]=>true
 | o,f::fs=>f.offset==o&&fX P (o+P.cellsOf f.type) fs
def jg (P:Program):Nat→TypeId→Bool
 | 0,_=>false
 | n+1,t=>match P.underlying t with
   | some .bool =>P.cellsOf t==1
   | some (.int _)=>P.cellsOf t==1
   | some .string =>P.cellsOf t==1
   | some (.slice e)=>P.cellsOf t==1&&decide (0<P.cellsOf e)&&jg P n e
   | some (.struct fs)=>fX P 0 fs.toList&&P.cellsOf t==(fs.toList.map fun f=>P.cellsOf f.type).sum &&fs.toList.all (fun f=>jg P n f.type)
   | some (.array m e)=>P.cellsOf t==m*P.cellsOf e&&jg P n e
   | some (.pointer e)=>P.cellsOf t==1&&decide (0<P.cellsOf e)&&jg P n e
   | some (.interface _)=>P.cellsOf t==1
   | _=>false
variable {G:Au} (hG: ∀ b,b<w.heap.size→ ¬G.wr b)
def YL (enc:TypeId×Value→H) (P:Program) (w:World) (spare:Nat→Bool) (G:Au) (n:Nat) (t:TypeId):Prop:=
 ∀ (fuel:Nat) (vs:List Value) (x:DataW H×List MemPlace),DataW.trod enc P w 0 spare true fuel t vs=some x→(x.1.weights P t).all (· ≤reachBytes)=true→ ∃ cs,Ag w G cs vs∧AU P n t cs∧vs.length=P.cellsOf t
theorem MT {n:Nat}: ∀ {fs:List Field} {o m:Nat} {vs:List Value} {xs:List (DataW H×List MemPlace)},fX P o fs=true→vs.length=o+(fs.map fun f=>P.cellsOf f.type).sum →xs.length=fs.length→
 (∀ f∈fs,YL enc P w spare G n f.type)→
 (∀ (i:Nat) (f:Field),fs[i]? =some f→DataW.trod enc P w 0 spare true m f.type ((vs.drop f.offset).take (P.cellsOf f.type))=xs[i]?)→
 (DataW.weightsEach P (fs.map (·.type)) (xs.map (·.1))).all (· ≤reachBytes)=true→ ∃ Ch:List (List C),Ag w G Ch.flatten (vs.drop o)∧LR (AU P n) (fs.map (·.type)) Ch
 | [],o,m,vs,xs,_,hl,_,_,_,_=>by
   refine⟨[],?_,rfl⟩
   have:vs.drop o=[]:=by simp_all
   rw [this];simp [Ag]
 | f::fs,o,m,vs,xs,ht,hl,hx,hr,hf,hw=>by
   simp only [fX,Bool.and_eq_true,beq_iff_eq]at ht
   obtain⟨h1,h2⟩:=ht
   cases xs with
   | nil=>simp at hx
   | cons x xs=>
     simp only [List.map_cons,List.sum_cons]at hl
     simp only [List.map_cons,DataW.weightsEach,List.all_append,Bool.and_eq_true]at hw
     have h0:=hf 0 f rfl
     simp only [List.getElem?_cons_zero]at h0
     obtain⟨cs,q1,q2,q3⟩:=hr f (by simp) m _ x h0 hw.1
     obtain⟨Ch,k1,k2⟩:=MT (o:=o+P.cellsOf f.type) (m:=m) (vs:=vs) (xs:=xs) h2 (by omega) (by grind) (fun g hg=>hr g (by simp [hg]))
      (fun i g hg=>by have:=hf (i+1) g (by simpa using hg);grind) hw.2
     refine⟨cs::Ch,?_,cs,Ch,rfl,q2,k2⟩
     grind [List.drop_drop,List.take_append_drop,OB]
theorem OD {n e:Nat} (hr:YL enc P w spare G n e): ∀ (k o m:Nat) (vs:List Value) (xs:List (DataW H×List MemPlace)),vs.length=o+k*P.cellsOf e→xs.length=k→
 (∀ i,i<k→DataW.trod enc P w 0 spare true m e ((vs.drop (o+i*P.cellsOf e)).take (P.cellsOf e))=xs[i]?)→
 (DataW.weightsAll P e (xs.map (·.1))).all (· ≤reachBytes)=true→ ∃ Ch:List (List C),Ag w G Ch.flatten (vs.drop o)∧Ch.length=k∧ ∀ ds∈Ch,AU P n e ds
 | 0,o,m,vs,xs,hl,_,_,_=>by
   refine⟨[],?_,rfl,by simp⟩
   grind [Ag]
 | k+1,o,m,vs,xs,hl,hx,hf,hw=>by
   cases xs with
   | nil=>simp at hx
   | cons x xs=>
     simp only [List.map_cons,DataW.weightsAll,List.all_append,Bool.and_eq_true]at hw
     have h0:=hf 0 (by omega)
     simp only [Nat.zero_mul,Nat.add_zero,List.getElem?_cons_zero]at h0
     obtain⟨cs,q1,q2,q3⟩:=hr m _ x h0 hw.1
     obtain⟨Ch,k1,k2,k3⟩:=OD hr k (o+P.cellsOf e) m vs xs (by grind) (by grind)
      (by grind) hw.2
     refine⟨cs::Ch,?_,by simp [k2],?_⟩
     ·grind [List.drop_drop,List.take_append_drop,OB]
     grind
theorem OF {n e:Nat} (hpos:0<P.cellsOf e) (hr:YL enc P w spare G n e): ∀ (k o m:Nat) (a:Addr) (xs:List (DataW H×List MemPlace)),xs.length=k→
 (∀ i,i<k→(w.cells? 0 (a.add (o+i*P.cellsOf e)) (P.cellsOf e)).bind (DataW.trod enc P w 0 spare true m e)=xs[i]?)→
 (DataW.weightsAll P e (xs.map (·.1))).all (· ≤reachBytes)=true→
 ∃ Ch:List (List C),Ch.length=k∧(∀ ds∈Ch,AU P n e ds)∧(0<k→a.block<w.heap.size∧(o=0→a=⟨a.block,a.off,none⟩)∧Ai w G Ch.flatten a.block (a.off+o))
 | 0,o,m,a,xs,_,_,_=>(by simp_all)
 | k+1,o,m,a,xs,hx,hf,hw=>by
   cases xs with
   | nil=>simp at hx
   | cons x xs=>
     simp only [List.map_cons,DataW.weightsAll,List.all_append,Bool.and_eq_true]at hw
     have h0:=hf 0 (by omega)
     simp only [Nat.zero_mul,Nat.add_zero,List.getElem?_cons_zero,Option.bind_eq_some_iff]at h0
     obtain⟨vs,hvs,htr⟩:=h0
     obtain⟨cs,q1,q2,q3⟩:=hr m _ x htr hw.1
     obtain⟨c1,c2,c3,c4⟩:=Vn hpos hvs
     obtain⟨Ch,k2,k3,k4⟩:=OF hpos hr k (o+P.cellsOf e) m a xs (by grind)
      (by grind) hw.2
     have hblk:(a.add o).block =a.block:=by grind [Addr.add]
     have hoff:(a.add o).off =a.off+o:=by
      grind [Addr.add]
     refine⟨cs::Ch,by simp [k2],?_,fun _=>⟨by grind,fun ho=>?_,?_⟩⟩
     ·grind
     ·subst ho
      have e:a.add 0=a:=rfl
      grind
     grind [Vm,OC,LS,List.length_eq_zero_iff]
theorem OG {c:C} {v:Value} (h:Ac w G c v):Ag w G [c] [v]:=by simp_all [Ag]
theorem YM {len:Nat} {cs:List C} {v:Value} (hp:Aj cs=true) (h: ∃ a cap,v= .slice a len cap∧len≤cap∧cap≤maxLen∧(len=0→cs=[])∧
 (len=0∨ ∃ b off,a=some ⟨b,off,none⟩∧ ¬G.wr b∧b<w.heap.size∧Ai w G cs b off)):Ac w G (.sl len cs) v:=by grind [Ac]
theorem Z7 {cs:List C} {off:Nat} {v:Value} (hp:Aj cs=true) (h: ∃ b o,v= .pointer (some ⟨b,o+off,none⟩)∧ ¬G.wr b∧b<w.heap.size∧Ai w G cs b o):Ac w G (.iptr cs off) v:=by grind [Ac]
include hG in
theorem If: ∀ (n:Nat) (t:TypeId),jg P n t=true→YL enc P w spare G n t
 | 0,t,h=>by simp [jg]at h
 | n+1,t,h=>by
   intro fuel vs x hx hw
   unfold jg at h
   unfold AU
   split at h
   ·rename_i ht
    obtain⟨b,rfl,rfl⟩:=DataW.trod_bool ht hx
    exact⟨[.bool b],by simp [Ag,Ac],by grind,by grind⟩
   ·rename_i k ht
    obtain⟨z,rfl,rfl,hwf⟩:=DataW.trod_int ht hx
    exact⟨[.int k z],by simp [Ag,Ac],by grind,by grind⟩
   ·rename_i ht
    obtain⟨s,rfl,rfl,hs⟩:=DataW.trod_string ht hx
    simp only [DataW.weights,List.all_cons,List.all_nil,Bool.and_true,decide_eq_true_eq]at hw
    exact⟨[.str s.data.toList],by simp [Ag,Ac],by grind,by grind⟩
   ·rename_i e ht
    simp only [Bool.and_eq_true,decide_eq_true_eq,beq_iff_eq]at h
    rcases DataW.trod_slice ht hx with ⟨rfl,rfl⟩ | ⟨a,len,cap,elems,rest,m,rfl,rfl,rfl,_,hle,hmax,hlen,hel,_,_⟩
    ·refine⟨[.sl 0 []],?_,?_,by grind⟩
     ·exact OG (YM rfl (by grind))
     ·exact⟨[],rfl,by simp,by simp⟩
    ·simp only [DataW.weights,ht,List.all_cons,List.all_append,Bool.and_eq_true,decide_eq_true_eq,List.length_map]at hw
     obtain⟨Ch,k2,k3,k4⟩:=OF h.1.2 (If n e h.2) len 0 m a elems hlen (by grind) hw.2.1
     refine⟨[.sl Ch.length Ch.flatten],?_,?_,by grind⟩
     ·refine OG (YM (EH (fun ds hd=>HB (k3 ds hd))) ⟨some a,cap,by rw [k2],by omega,hmax,fun h0=>by rw [List.length_eq_zero_iff.1 h0];rfl,?_⟩)
      rw [k2]
      by_cases hk:0<len
      ·obtain⟨q1,q2,q3⟩:=k4 hk
       exact .inr ⟨a.block,a.off,by rw [←q2 rfl],hG _ q1,q1,q3⟩
      ·exact .inl (by omega)
     grind
   ·rename_i fs ht
    simp only [Bool.and_eq_true,beq_iff_eq,List.all_eq_true]at h
    obtain⟨⟨h1,h2⟩,h3⟩:=h
    obtain⟨xs,m,rfl,rfl,hl,hx2,hf⟩:=DataW.trod_struct ht hx
    simp only [DataW.weights,ht]at hw
    obtain⟨Ch,k1,k2⟩:=MT (fs:=fs.toList) (o:=0) (m:=m) (vs:=vs) (xs:=xs) (enc:=enc) (spare:=spare) (n:=n) h1 (by grind) (by grind) (fun f hf=>If n f.type (h3 f hf))
     (by grind) hw
    grind
   ·rename_i m e ht
    simp only [Bool.and_eq_true,beq_iff_eq]at h
    obtain⟨xs,q,rfl,rfl,hl,hx2,hf⟩:=DataW.trod_array ht hx
    simp only [DataW.weights,ht]at hw
    obtain⟨Ch,k1,k2,k3⟩:=OD (If n e h.2) m 0 q vs xs (by grind) hx2 (by grind) hw
    grind
   ·rename_i e ht
    simp only [Bool.and_eq_true,decide_eq_true_eq,beq_iff_eq]at h
    rcases DataW.trod_pointer ht hx with ⟨rfl,rfl⟩ | ⟨a,cs',y,m,rfl,rfl,rfl,hc,hy⟩
    ·exact⟨[.nilp],by simp [Ag,Ac],by grind,by grind⟩
    ·simp only [DataW.weights,ht]at hw
     obtain⟨ds,q1,q2,q3⟩:=If n e h.2 m cs' y hy hw
     obtain⟨c1,c2,c3,c4⟩:=Vn h.1.2 hc
     refine⟨[.iptr ds 0],?_,by grind,by grind⟩
     exact OG (Z7 (HB q2) ⟨a.block,a.off,by grind,hG _ c2,c2,(by grind [LS])⟩)
   ·rename_i ms ht
    cases fuel with
    | zero=>simp [DataW.trod]at hx
    | succ fuel=>
      unfold DataW.trod at hx
      rw [ht]at hx
      split at hx<;>simp_all
      ·exact⟨[.niface],by simp [Ag,Ac], .inl rfl⟩
      ·exact⟨[.held],by simp [Ag,Ac], .inr rfl⟩
   ·cases h
end
end Go.PL
namespace Go.PL
open Go Go.RowKit
section
variable {P:Program} {t e:TypeId} {n:Nat} {cs:List C}
theorem Xj (hu:P.underlying t=some .bool) (h:AU P n t cs): ∃ b,cs=[.bool b]∧True:=by
 cases n<;>simp_all [AU]
theorem Z8 {k:IntKind} (hu:P.underlying t=some (.int k)) (h:AU P n t cs): ∃ z,cs=[.int k z]∧(Lit.int k z).wf =true:=by
 cases n<;>grind [AU]
theorem Z9 (hu:P.underlying t=some .string) (h:AU P n t cs): ∃ s:List UInt8,cs=[.str s]∧s.length≤reachBytes:=by
 cases n<;>grind [AU]
theorem OH {α:Type} {R:List C→Prop} {enc:α→List C} {ok:α→Prop} (hd: ∀ ds,R ds→ ∃ x,ds=enc x∧ok x): ∀ {Ch:List (List C)},(∀ ds∈Ch,R ds)→ ∃ l:List α,Ch=l.map enc∧ ∀ y∈l,ok y
 | [],_=>(by simp_all)
 | ds::Ch,h=>by
   obtain⟨x,h1,h2⟩:=hd ds (h ds (by simp))
   obtain⟨l,h3,h4⟩:=OH hd (fun d hd'=>h d (by simp [hd']): ∀ d∈Ch,R d)
   refine⟨x::l,by grind,fun y hy=>?_⟩
   grind
theorem ck {α:Type} {enc:α→List C} {ok:α→Prop} {b:Nat} (hu:P.underlying t=some (.slice e)) (hb:P.bytesOf e=b) (hd: ∀ n ds,AU P n e ds→ ∃ x,ds=enc x∧ok x) (h:AU P n t cs):
 ∃ l:List α,cs=[.sl l.length (l.flatMap enc)]∧l.length*b≤reachBytes∧ ∀ y∈l,ok y:=by
 cases n with
 | zero=>exact h.elim
 | succ n=>
   simp only [AU,hu]at h
   obtain⟨Ch,h1,h2,h3⟩:=h
   obtain⟨l,rfl,h5⟩:=OH (hd n) h3
   grind
theorem Vo {α:Type} (f:α→C): ∀ l:List α,l.flatMap (fun x=>[f x])=l.map f
 | []=>rfl
 | a::l=>by rw [List.flatMap_cons,Vo f l];rfl
theorem AX {fs:Array Field} {ts:List TypeId} (hu:P.underlying t=some (.struct fs)) (hts:fs.toList.map (·.type)=ts) (h:AU P n t cs): ∃ (m:Nat) (Ch:List (List C)),cs=Ch.flatten∧LR (AU P m) ts Ch:=by
 cases n<;>grind [AU]
theorem RI {α:Type} {enc:α→List C} {n:Nat} (hn: ∀ x,(enc x).length =n) (l:List α) {i:Nat} (d:α) (hi:i<l.length) (j m:Nat) (hj:j+m≤n):
 ((l.flatMap enc).drop (i*n+j)).take m=((enc (l.getD i d)).drop j).take m:=by
 induction l generalizing i with
 | nil=>simp at hi
 | cons a l ih=>
   cases i with
   | zero=>
     grind
   | succ i=>
     have:=ih (i:=i) (by simpa using hi)
     rw [List.getD_cons_succ, ←this,List.flatMap_cons]
     have e:(i+1)*n+j=(enc a).length +(i*n+j):=by grind
     simp_all [List.drop_append,List.drop_of_length_le]
theorem cm {α:Type} {enc:α→List C} {n:Nat} (hn: ∀ x,(enc x).length =n) (l:List α) {i:Nat} (d:α) (hi:i<l.length) (j:Nat) (hj:j<n):
 (l.flatMap enc).getD (i*n+j) C.any=(enc (l.getD i d)).getD j C.any:=by
 have h:=RI hn l d hi j 1 (by omega)
 have e: ∀ (m:List C) (k:Nat),m.getD k C.any=((m.drop k).take 1).getD 0 C.any:=by
  grind
 grind
theorem BO {α:Type} {enc:α→List C} {n:Nat} (hn: ∀ x,(enc x).length =n): ∀ l:List α,(l.flatMap enc).length =l.length*n
 | []=>by simp
 | a::l=>by rw [List.flatMap_cons,List.length_append,hn,BO hn l,List.length_cons,Nat.add_mul];omega
end
end Go.PL
namespace Go.PL
open Go Go.RowKit
def AC:List Prop→Prop
 | []=>True
 | p::ps=>p∧AC ps
theorem Af: ∀ {a b:List Prop},AC (a++b)↔AC a∧AC b
 | [],b=>by simp [AC]
 | p::a,b=>by simp_all [AC,Af,and_assoc]
abbrev CV:=Option (List Prop×V)
def NS {α:Type} (b:Bool) (r:α):Option α:=match b with
 | true=>some r
 | false=>none
theorem A7 {α:Type} {b:Bool} {r x:α} (h:NS b r=some x):b=true∧r=x:=by
 cases b<;>simp [NS]at h;grind
def AD (st:St) (g:Bool) (x:Operand):List Prop×V:=
 match st.ev x with
 | .g c v=>([g=true→c=true],v)
 | v=>([],v)
theorem IR {st:St} {g:Bool} {x:Operand} (hl:AC (AD st g x).1):(st.arg g x).1∧(st.arg g x).2=(AD st g x).2:=by
 unfold AD at *
 unfold St.arg
 generalize st.ev x=e at *
 cases e with
 | g c v=>exact⟨hl.1,rfl⟩
 | c _=>grind
 | agg _=>grind
 | tup _=>grind
 | undef=>grind
def EO (st:St) (g:Bool):List Operand→List Prop×List V
 | []=>([],[])
 | x::xs=>((AD st g x).1++(EO st g xs).1,(AD st g x).2::(EO st g xs).2)
theorem FQ {st:St} {g:Bool}: ∀ {xs:List Operand},AC (EO st g xs).1→(st.args g xs).1∧(st.args g xs).2=(EO st g xs).2
 | [],_=>⟨trivial,rfl⟩
 | x::xs,hl=>by
   obtain⟨h1,h2⟩:=Af.1 hl
   have a:=IR (st:=st) (g:=g) (x:=x) h1
   have b:=FQ (st:=st) (g:=g) (xs:=xs) h2
   simp only [St.args,EO]
   exact⟨⟨a.1,b.1⟩,by rw [a.2,b.2]⟩
def S9:V→Option (Option Bool×Bool)
 | .c (.bool q)=>some (none,q)
 | .g c (.c (.bool q))=>some (some c,q)
 | _=>none
def cn (p:Prop):Option Bool→List Prop
 | none=>[]
 | some c=>[p→c=true]
theorem MU {v:V} {c:Option Bool} {q:Bool} (h:S9 v=some (c,q)):Jo v=some (c.getD true,q):=by
 unfold S9 at h
 split at h<;>simp at h
 ·obtain⟨rfl,rfl⟩:=h;rfl
 ·obtain⟨rfl,rfl⟩:=h;rfl
theorem OI {p:Prop} {c:Option Bool} (h:AC (cn p c)):p→c.getD true=true:=by
 cases c with
 | none=>intro _;rfl
 | some c=>exact h.1
def jh (l:List Prop) (p:Bool) (a b:V):CV:=
 match S9 a,S9 b with
 | some (ca,q),some (cb,r)=>some (l++(cn (p=true) ca++cn (p=false) cb), .c (.bool (if p then q else r)))
 | _,_=>none
def YN (P:Program) (t:TypeId) (st:St) (l:List Prop):V→CV
 | .c (.ptr id off)=>match Fd P t,st.lookR id with
   | some (ag,n),some e=>NS (Nat.ble (off+n) e.cs.length&&(ag||Nat.blt 0 n)) (l,toV ag off n e.cs)
   | _,_=>none
 | .c (.iptr cs off)=>match Fd P t with
   | some (ag,n)=>NS (Nat.ble (off+n) cs.length&&(ag||Nat.blt 0 n)) (l,toV ag off n cs)
   | _=>none
 | _=>none
theorem MV {P:Program} {t:TypeId} {st:St} {l l':List Prop} {x v:V} (h:YN P t st l x=some (l',v)):l=l'∧(Cy P t st x).1∧(Cy P t st x).2=v:=by
 unfold YN at h
 unfold Cy
 split at h
 ·split at h
  ·rename_i ag n e h1 h2
   obtain⟨hb,hr⟩:=A7 h
   simp_all
  ·cases h
 ·split at h
  ·rename_i ag n h1
   obtain⟨hb,hr⟩:=A7 h
   simp_all
  ·cases h
 ·cases h
def cq (P:Program) (t:TypeId) (st:St) (l:List Prop) (u:V):V→CV
 | .c (.ptr id off)=>match Fd P t,st.lookR id with
   | some (ag,n),some e=>NS (ag||Nat.blt 0 n) (l++[off+n≤e.cs.length∧toV ag off n e.cs=u],u)
   | _,_=>none
 | .c (.iptr cs off)=>match Fd P t with
   | some (ag,n)=>NS (ag||Nat.blt 0 n) (l++[off+n≤cs.length∧toV ag off n cs=u],u)
   | _=>none
 | _=>none
theorem Vp {P:Program} {t:TypeId} {st:St} {l l':List Prop} {x u v:V} (h:cq P t st l u x=some (l',v)) (hl:AC l'):AC l∧(Cy P t st x).1∧(Cy P t st x).2=v:=by
 unfold cq at h
 unfold Cy
 split at h
 ·split at h
  ·rename_i ag n e h1 h2
   obtain⟨hb,hr⟩:=A7 h
   simp only [Prod.mk.injEq]at hr
   obtain⟨rfl,rfl⟩:=hr
   obtain⟨q1,q2,_⟩:=Af.1 hl
   simp_all
  ·cases h
 ·split at h
  ·rename_i ag n h1
   obtain⟨hb,hr⟩:=A7 h
   simp only [Prod.mk.injEq]at hr
   obtain⟨rfl,rfl⟩:=hr
   obtain⟨q1,q2,_⟩:=Af.1 hl
   simp_all
  ·cases h
 ·cases h
def mT:BinOp→IntKind→IntKind→Bool
 | .shl,_,_ | .shr,_,_=>true
 | _,k,k'=>k==k'
theorem OJ {op:BinOp} {k k':IntKind} (h:mT op k k'=true):GU op k k':=by
 unfold mT at h
 grind [GU]
def jX (op:BinOp) (b:Int):List Prop:=
 match op with
 | .quo | .rem =>[b ≠ 0]
 | .shl | .shr =>[0≤b]
 | _=>[]
theorem ac {op:BinOp} {k:IntKind} {a b:Int} (h:AC (jX op b)):(EJ op k a b).1:=by
 cases op<;>simp_all [jX,EJ,AC]
def jY (op:BinOp) (a b:List UInt8):Option (List Prop):=
 match op with
 | .add =>some [a.length+b.length≤maxLen]
 | .eql | .neq | .lss | .leq | .gtr | .geq =>some []
 | _=>none
theorem ae {op:BinOp} {a b:List UInt8} {l:List Prop} (h:jY op a b=some l) (hl:AC l):(Fe op a b).1:=by
 cases op<;>simp_all [jY,Fe]<;>(subst h;exact hl.1)
def jZ (P:Program) (op:BinOp) (t:TypeId) (kc:Bool) (l:List Prop):V→V→CV
 | .c (.int k a), .c (.int k' b)=>NS (mT op k k') (l++jX op b, .c (EJ op k a b).2)
 | .c (.str a), .c (.str b)=>match jY op a b with
   | some c=>some (l++c, .c (Fe op a b).2)
   | none=>none
 | .agg cs, .agg ds=>match op with
   | .eql =>NS (Vi P t cs ds) (l, .c (.bool (Co cs ds)))
   | .neq =>NS (Vi P t cs ds) (l, .c (.bool !(Co cs ds)))
   | _=>none
 | x,y=>some (l++[(NE P op t kc x y).1],(NE P op t kc x y).2)
def HC (P:Program) (op:BinOp) (t:TypeId) (k:Bool) (x y:V):Prop×V:=
 match x,y with
 | .agg cs, .agg ds=>QJ P op t cs ds
 | x,y=>NE P op t k x y
theorem Xk {P:Program} {op:BinOp} {t:TypeId} {kc:Bool} {l l':List Prop} {x y v:V} (h:jZ P op t kc l x y=some (l',v)) (hl:AC l'):AC l∧(HC P op t kc x y).1∧(HC P op t kc x y).2=v:=by
 unfold jZ at h
 split at h
 ·obtain⟨hb,hr⟩:=A7 h
  simp only [Prod.mk.injEq]at hr
  obtain⟨rfl,rfl⟩:=hr
  obtain⟨q1,q2⟩:=Af.1 hl
  exact⟨q1,⟨OJ hb,ac q2⟩,rfl⟩
 ·split at h
  ·rename_i c hc
   simp only [Option.some.injEq,Prod.mk.injEq]at h
   obtain⟨rfl,rfl⟩:=h
   obtain⟨q1,q2⟩:=Af.1 hl
   exact⟨q1,ae hc q2,rfl⟩
  ·cases h
 ·split at h
  ·obtain⟨hb,hr⟩:=A7 h
   simp only [Prod.mk.injEq]at hr
   exact⟨hr.1▸hl,hb,hr.2⟩
  ·obtain⟨hb,hr⟩:=A7 h
   simp only [Prod.mk.injEq]at hr
   exact⟨hr.1▸hl,hb,hr.2⟩
  ·cases h
 ·rename_i hne
  simp only [Option.some.injEq,Prod.mk.injEq]at h
  obtain⟨rfl,rfl⟩:=h
  obtain⟨q1,q2⟩:=Af.1 hl
  have e:HC P op t kc x y=NE P op t kc x y:=by
   grind [HC]
  rw [e]
  exact⟨q1,q2.1,rfl⟩
def j6 (P:Program) (t:TypeId) (st:St) (l:List Prop) (x y:V):CV:=
 match y with
 | .c (.int _ i)=>match x with
   | .c (.sl len cs)=>match BZ P t with
     | some (_,n)=>some (l++[0≤i∧i<len], .c (.iptr cs (i.toNat*n)))
     | none=>none
   | .c (.osl id)=>match BZ P t,st.lookR id with
     | some (_,n),some e=>match e.row with
       | some (_,_,len)=>some (l++[0≤i∧i<len], .c (.ptr id (i.toNat*n)))
       | none=>none
     | _,_=>none
   | .c (.bsl id off len)=>match BZ P t with
     | some (_,n)=>some (l++[0≤i∧i<len], .c (.ptr id (off+i.toNat*n)))
     | none=>none
   | .c (.ptr id off)=>match CL P t with
     | some (k,_,n)=>some (l++[0≤i∧i<k], .c (.ptr id (off+i.toNat*n)))
     | none=>none
   | .c (.iptr cs off)=>match CL P t with
     | some (k,_,n)=>some (l++[0≤i∧i<k], .c (.iptr cs (off+i.toNat*n)))
     | none=>none
   | _=>none
 | _=>none
theorem Xl {P:Program} {t:TypeId} {st:St} {l l':List Prop} {x y v:V} (h:j6 P t st l x y=some (l',v)) (hl:AC l'):AC l∧(Bu P t st x y).1∧(Bu P t st x y).2=v:=by
 unfold j6 at h
 unfold Bu
 split at h
 ·split at h
  ·split at h
   ·rename_i h1
    simp only [Option.some.injEq,Prod.mk.injEq]at h
    obtain⟨rfl,rfl⟩:=h
    obtain⟨q1,q2,_⟩:=Af.1 hl
    grind
   ·cases h
  ·split at h
   ·rename_i h1 h2
    split at h
    ·rename_i h3
     simp only [Option.some.injEq,Prod.mk.injEq]at h
     obtain⟨rfl,rfl⟩:=h
     obtain⟨q1,q2,_⟩:=Af.1 hl
     grind
    ·cases h
   ·cases h
  ·split at h
   ·rename_i h1
    simp only [Option.some.injEq,Prod.mk.injEq]at h
    obtain⟨rfl,rfl⟩:=h
    obtain⟨q1,q2,_⟩:=Af.1 hl
    grind
   ·cases h
  ·split at h
   ·rename_i h1
    simp only [Option.some.injEq,Prod.mk.injEq]at h
    obtain⟨rfl,rfl⟩:=h
    obtain⟨q1,q2,_⟩:=Af.1 hl
    grind
   ·cases h
  ·split at h
   ·rename_i h1
    simp only [Option.some.injEq,Prod.mk.injEq]at h
    obtain⟨rfl,rfl⟩:=h
    obtain⟨q1,q2,_⟩:=Af.1 hl
    grind
   ·cases h
  ·cases h
 ·cases h
def j7 (P:Program) (t:TypeId) (l:List Prop) (x:V) (lo hi:Option V):CV:=
 match x with
 | .c (.str s)=>match QG s.length lo hi with
   | some (a,h)=>NS (Cj P t) (l++[0≤a∧a≤h∧h≤s.length], .c (.str ((s.drop a.toNat).take (h.toNat - a.toNat))))
   | none=>none
 | .c (.sl len cs)=>match BZ P t,QG len lo hi with
   | some (_,n),some (a,h)=>some (l++[0≤a∧a≤h∧h≤len,cs.length=len*n], .c (.sl (h.toNat - a.toNat) ((cs.drop (a.toNat*n)).take ((h.toNat - a.toNat)*n))))
   | _,_=>none
 | .c (.ptr id off)=>match CL P t with
   | some (k,_,n)=>match QG k lo hi with
     | some (a,h)=>some (l++[0≤a∧a<k∧a≤h∧h≤k], .c (.bsl id (off+a.toNat*n) (h.toNat - a.toNat)))
     | none=>none
   | none=>none
 | _=>none
theorem Xm {P:Program} {t:TypeId} {l l':List Prop} {x v:V} {lo hi:Option V} (h:j7 P t l x lo hi=some (l',v)) (hl:AC l'):AC l∧(Ei P t x lo hi).1∧(Ei P t x lo hi).2=v:=by
 unfold j7 at h
 unfold Ei
 split at h
 ·split at h
  ·rename_i a hh h1
   obtain⟨hb,hr⟩:=A7 h
   simp only [Prod.mk.injEq]at hr
   obtain⟨rfl,rfl⟩:=hr
   obtain⟨q1,q2,_⟩:=Af.1 hl
   grind
  ·cases h
 ·split at h
  ·rename_i h1 h2
   simp only [Option.some.injEq,Prod.mk.injEq]at h
   obtain⟨rfl,rfl⟩:=h
   obtain⟨q1,q2,q3,_⟩:=Af.1 hl
   grind
  ·cases h
 ·split at h
  ·rename_i h1
   split at h
   ·rename_i h2
    simp only [Option.some.injEq,Prod.mk.injEq]at h
    obtain⟨rfl,rfl⟩:=h
    obtain⟨q1,q2,_⟩:=Af.1 hl
    grind
   ·cases h
  ·cases h
 ·cases h
def TA (st:St) (g:Bool):Option Operand→List Prop×Option V
 | none=>([],none)
 | some x=>((AD st g x).1,some (AD st g x).2)
theorem fY {st:St} {g:Bool}: ∀ {x:Option Operand},AC (TA st g x).1→(B2 st g x).1∧(B2 st g x).2=(TA st g x).2
 | none,_=>⟨trivial,rfl⟩
 | some x,hl=>by
   grind [IR,B2,TA]
def j8 (P:Program) (s:TypeId) (f:Nat) (l:List Prop):V→CV
 | .c (.ptr id off)=>match ZR P s f with
   | some (o,_,n)=>NS (Nat.blt 0 n) (l, .c (.ptr id (off+o)))
   | none=>none
 | .c (.iptr cs off)=>match ZR P s f with
   | some (o,_,n)=>NS (Nat.blt 0 n) (l, .c (.iptr cs (off+o)))
   | none=>none
 | _=>none
theorem Xn {P:Program} {s:TypeId} {f:Nat} {l l':List Prop} {x v:V} (h:j8 P s f l x=some (l',v)):l=l'∧(Bh P s f x).1∧(Bh P s f x).2=v:=by
 unfold j8 at h
 unfold Bh
 split at h
 ·split at h
  ·rename_i h1
   obtain⟨hb,hr⟩:=A7 h
   simp_all
  ·cases h
 ·split at h
  ·rename_i h1
   obtain⟨hb,hr⟩:=A7 h
   simp_all
  ·cases h
 ·cases h
def Xo (P:Program) (t:TypeId) (f:Nat) (l:List Prop):V→CV
 | .agg cs=>match ZR P t f with
   | some (o,ag,n)=>NS (Nat.ble (o+n) cs.length&&(ag||Nat.blt 0 n)) (l,toV ag o n cs)
   | none=>none
 | _=>none
theorem TB {P:Program} {s:TypeId} {f:Nat} {l l':List Prop} {x v:V} (h:Xo P s f l x=some (l',v)):l=l'∧(FH P s f x).1∧(FH P s f x).2=v:=by
 unfold Xo at h
 unfold FH
 split at h
 ·split at h
  ·rename_i h1
   obtain⟨hb,hr⟩:=A7 h
   simp_all
  ·cases h
 ·cases h
def cr (P:Program) (t:TypeId) (l:List Prop) (x y:V) (u:Option V):CV:=
 match y with
 | .c (.int _ i)=>match x with
   | .c (.str s)=>NS (Cj P t) (l++[0≤i∧i<s.length], .c (.int .u8 (s.getD i.toNat 0).toNat))
   | .agg cs=>match CL P t with
     | some (k,e,n)=>match Fd P e,u with
       | some (ag,_),some u=>NS (Nat.blt 0 n) (l++[(0≤i∧i<k)∧i.toNat*n+n≤cs.length∧toV ag (i.toNat*n) n cs=u],u)
       | _,_=>none
     | none=>none
   | _=>none
 | _=>none
theorem Vq {P:Program} {t:TypeId} {l l':List Prop} {x y v:V} {u:Option V} (h:cr P t l x y u=some (l',v)) (hl:AC l'):AC l∧(E9 P t x y).1∧(E9 P t x y).2=v:=by
 unfold cr at h
 unfold E9
 split at h
 ·split at h
  ·obtain⟨hb,hr⟩:=A7 h
   simp only [Prod.mk.injEq]at hr
   obtain⟨rfl,rfl⟩:=hr
   obtain⟨q1,q2,_⟩:=Af.1 hl
   grind
  ·split at h
   ·rename_i h1
    split at h
    ·rename_i h2
     obtain⟨hb,hr⟩:=A7 h
     simp only [Prod.mk.injEq]at hr
     obtain⟨rfl,rfl⟩:=hr
     obtain⟨q1,q2,_⟩:=Af.1 hl
     simp_all
    ·cases h
   ·cases h
  ·cases h
 ·cases h
def oG (op:UnOp) (l:List Prop):V→CV
 | .c (.int k n)=>match op with
   | .neg =>some (l, .c (.int k (k.wrap (0 - n))))
   | .xor =>some (l, .c (.int k (SV k (if k.signed then -1 else k.max) n)))
   | _=>none
 | .c (.bool b)=>match op with
   | .not =>some (l, .c (.bool !b))
   | _=>none
 | _=>none
theorem ah {op:UnOp} {l l':List Prop} {x v:V} (h:oG op l x=some (l',v)):l=l'∧(fM op x).1∧(fM op x).2=v:=by
 unfold oG at h
 grind [fM]
def ct (P:Program) (src dst:TypeId) (st:St) (l:List Prop):V→CV
 | .c (.int _ n)=>match Ru P dst with
   | some k=>NS (ZT P src) (l, .c (.int k (k.wrap n)))
   | none=>none
 | .c (.str s)=>NS (Cj P src&&Cj P dst) (l, .c (.str s))
 | x=>some (l++[(Gr P src dst st x).1],(Gr P src dst st x).2)
theorem Vr {P:Program} {src dst:TypeId} {st:St} {l l':List Prop} {x v:V} (h:ct P src dst st l x=some (l',v)) (hl:AC l'):AC l∧(Gr P src dst st x).1∧(Gr P src dst st x).2=v:=by
 unfold ct at h
 split at h
 ·grind [Gr,A7]
 ·grind [Gr,A7]
 ·simp only [Option.some.injEq,Prod.mk.injEq]at h
  obtain⟨rfl,rfl⟩:=h
  obtain⟨q1,q2,_⟩:=Af.1 hl
  grind
def j9 (P:Program) (t:TypeId) (st:St) (l:List Prop):V→CV
 | .c (.str s)=>NS (Cj P t) (l, .c (.int .i64 s.length))
 | .c (.sl len _)=>NS (BV P t) (l, .c (.int .i64 len))
 | .c (.osl id)=>match st.lookR id with
   | some e=>match e.row with
     | some (_,_,len)=>NS (BV P t) (l, .c (.int .i64 len))
     | none=>none
   | none=>none
 | x=>some (l++[(Jm P t st x).1],(Jm P t st x).2)
theorem Xp {P:Program} {t:TypeId} {st:St} {l l':List Prop} {x v:V} (h:j9 P t st l x=some (l',v)) (hl:AC l'):AC l∧(Jm P t st x).1∧(Jm P t st x).2=v:=by
 unfold j9 at h
 split at h
 ·obtain⟨hb,hr⟩:=A7 h
  simp only [Prod.mk.injEq]at hr
  exact⟨hr.1▸hl,hb,hr.2⟩
 ·obtain⟨hb,hr⟩:=A7 h
  simp only [Prod.mk.injEq]at hr
  exact⟨hr.1▸hl,hb,hr.2⟩
 ·grind [Jm,A7]
 ·simp only [Option.some.injEq,Prod.mk.injEq]at h
  obtain⟨rfl,rfl⟩:=h
  obtain⟨q1,q2,_⟩:=Af.1 hl
  grind
def fZ (P:Program) (st:St) (g:Bool) (op:Op):Option V→CV
 | none=>some ([(CA P st g op).1],(CA P st g op).2)
 | some u=>some ([(CA P st g op).1∧(CA P st g op).2=u],u)
theorem Jv {P:Program} {st:St} {g:Bool} {u:Option V} {op:Op} {l:List Prop} {v:V} (h:fZ P st g op u=some (l,v)) (hl:AC l):(CA P st g op).1∧(CA P st g op).2=v:=by
 cases u<;>simp only [fZ,Option.some.injEq,Prod.mk.injEq]at h<;>obtain⟨rfl,rfl⟩:=h
 ·exact⟨hl.1,rfl⟩
 ·exact hl.1
def n9 (P:Program) (st:St) (g:Bool) (u:Option V):Op→CV
 | .move x=>some (AD st g x)
 | .assign x=>some (AD st g x)
 | .pick c a b=>match (AD st g c).2 with
   | .c (.bool p)=>jh (AD st g c).1 p (st.ev a) (st.ev b)
   | _=>none
 | .load t x=>match u with
   | none=>YN P t st (AD st g x).1 (AD st g x).2
   | some u=>cq P t st (AD st g x).1 u (AD st g x).2
 | .binOp op t x y _=>jZ P op t (AL x||AL y) ((AD st g x).1++(AD st g y).1) (AD st g x).2 (AD st g y).2
 | .unOp op _ x=>oG op (AD st g x).1 (AD st g x).2
 | .convert src dst x=>ct P src dst st (AD st g x).1 (AD st g x).2
 | .slice t x lo hi none=>j7 P t ((AD st g x).1++((TA st g lo).1++(TA st g hi).1)) (AD st g x).2 (TA st g lo).2 (TA st g hi).2
 | .fieldAddr s x f=>j8 P s f (AD st g x).1 (AD st g x).2
 | .field t x f=>Xo P t f (AD st g x).1 (AD st g x).2
 | .indexAddr t x i=>j6 P t st ((AD st g x).1++(AD st g i).1) (AD st g x).2 (AD st g i).2
 | .index t x i=>cr P t ((AD st g x).1++(AD st g i).1) (AD st g x).2 (AD st g i).2 u
 | .call c=>match c.callee,c.args.toList,c.argTypes.toList with
   | .builtin .len,[x],[t]=>j9 P t st (AD st g x).1 (AD st g x).2
   | _,_,_=>fZ P st g (.call c) none
 | op=>fZ P st g op u
theorem RJ {P:Program} {st:St} {g:Bool} {u:Option V} {op:Op} {l:List Prop} {v:V} (h:n9 P st g u op=some (l,v)) (hl:AC l):(CA P st g op).1∧(CA P st g op).2=v:=by
 have A: ∀ x,AC (AD st g x).1→(st.arg g x).1∧(st.arg g x).2=(AD st g x).2:=fun x hx=>IR hx
 have O: ∀ x,AC (TA st g x).1→(B2 st g x).1∧(B2 st g x).2=(TA st g x).2:=fun x hx=>fY hx
 cases op<;>simp only [n9]at h<;>try exact Jv h hl
 case move x=>
  grind [CA,rd]
 case assign x=>
  grind [CA,rd]
 case pick c a b=>
  split at h
  ·rename_i p hp
   unfold jh at h
   split at h
   ·rename_i ca q cb r h1 h2
    simp only [Option.some.injEq,Prod.mk.injEq]at h
    obtain⟨rfl,rfl⟩:=h
    obtain⟨q1,q2⟩:=Af.1 hl
    obtain⟨q2,q3⟩:=Af.1 q2
    obtain⟨k1,k2⟩:=A c q1
    rw [hp]at k2
    simp only [CA,rd,bnd,k2,Oj,MU h1,MU h2]
    exact⟨⟨k1,OI q2,OI q3⟩,trivial⟩
   ·cases h
  ·cases h
 case load t x=>
  split at h
  ·have:=MV h
   grind [CA,rd,bnd]
  ·have:=Vp h hl
   grind [CA,rd,bnd]
 case binOp op t x y ty=>
  have:=Xk h hl
  obtain⟨q1,q2⟩:=Af.1 this.1
  obtain⟨k1,k2⟩:=A x q1
  obtain⟨k3,k4⟩:=A y q2
  have e:CA P st g (.binOp op t x y ty)=((st.arg g x).1∧(st.arg g y).1∧(HC P op t (AL x||AL y) (st.arg g x).2 (st.arg g y).2).1,(HC P op t (AL x||AL y) (st.arg g x).2 (st.arg g y).2).2):=by
   simp only [CA]
   unfold HC
   split
   ·grind
   ·rename_i hne
    split
    ·grind
    ·rfl
  grind
 case unOp op t x=>
  have:=ah h
  grind [CA,rd,bnd]
 case convert s d x=>
  have:=Vr h hl
  grind [CA,rd,bnd]
 case slice t x lo hi mx=>
  cases mx with
  | some m=>exact Jv h hl
  | none=>
    have:=Xm h hl
    grind [Af,CA,rd,bnd]
 case fieldAddr s x f=>
  have:=Xn h
  grind [CA,rd,bnd]
 case field s x f=>
  have:=TB h
  grind [CA,rd,bnd]
 case indexAddr t x y=>
  have:=Xl h hl
  grind [Af,CA,rd,bnd]
 case index t x y=>
  have:=Vq h hl
  grind [Af,CA,rd,bnd]
 case call c=>
  split at h
  ·rename_i x t h1 h2 h3
   have:=Xp h hl
   grind [CA,rd,Jp,bnd]
  ·exact Jv h hl
def ji (P:Program) (st:St) (g:Bool) (u:Option V) (op:Op):CV:=
 match u with
 | none=>n9 P st g none op
 | some u=>match n9 P st g (some u) op with
   | some (l,v)=>some (l++[v=u],u)
   | none=>none
theorem CB {P:Program} {st:St} {g:Bool} {u:Option V} {op:Op} {l:List Prop} {v:V} (h:ji P st g u op=some (l,v)) (hl:AC l):(CA P st g op).1∧(CA P st g op).2=v:=by
 cases u with
 | none=>grind [ji,RJ]
 | some u=>
   simp only [ji]at h
   split at h
   ·rename_i l1 v1 h1
    simp only [Option.some.injEq,Prod.mk.injEq]at h
    obtain⟨rfl,rfl⟩:=h
    obtain⟨q1,q2,_⟩:=Af.1 hl
    grind [RJ]
   ·cases h
end Go.PL
namespace Go.PL
open Go Go.RowKit
mutual
def C.menP (p:Ae→Bool):C→Bool
 | .osl i=>p i
 | .ptr i _=>p i
 | .bsl i _ _=>p i
 | .rsl i _ _ _=>p i
 | .bld i _=>p i
 | .mref i=>p i
 | .clo _ cs=>BF p cs
 | .bmv _ cs=>BF p cs
 | _=>false
def BF (p:Ae→Bool):List C→Bool
 | []=>false
 | c::cs=>c.menP p||BF p cs
end
mutual
def V.menP (p:Ae→Bool):V→Bool
 | .c x=>x.menP p
 | .agg cs=>BF p cs
 | .tup vs=>Ig p vs
 | .g _ v=>v.menP p
 | .undef =>false
def Ig (p:Ae→Bool):List V→Bool
 | []=>false
 | v::vs=>v.menP p||Ig p vs
end
def Bx (p:Ae→Bool) (c:C):C:=if c.menP p then .any else c
def AV (p:Ae→Bool) (v:V):V:=if v.menP p then .undef else v
def Ak.killP (p:Ae→Bool) (e:Ak):Ak:=match e with
 | ⟨i,r,cs,true⟩=>⟨i,r,cs,true⟩
 | ⟨i,r,cs,false⟩=>⟨i,r,cs.map (Bx p),false⟩
theorem Ak.killP_id (p:Ae→Bool) (e:Ak):(e.killP p).id =e.id:=by obtain⟨i,r,cs,_ | _⟩:=e<;>rfl
theorem Ak.killP_pu (p:Ae→Bool) (e:Ak):(e.killP p).pu =e.pu:=by obtain⟨i,r,cs,_ | _⟩:=e<;>rfl
mutual
theorem Xq (p:Ae→Bool) (i:Ae): ∀ c:C,c.menP p=false→c.men i=true→p i=false
 | .osl _,h,k=>by simp_all [C.menP,C.men]
 | .ptr _ _,h,k=>by simp_all [C.menP,C.men]
 | .rsl _ _ _ _,h,k=>by simp_all [C.menP,C.men]
 | .bsl _ _ _,h,k=>by simp_all [C.menP,C.men]
 | .bld _ _,h,k=>by simp_all [C.menP,C.men]
 | .mref _,h,k=>by simp_all [C.menP,C.men]
 | .clo _ cs,h,k=>OL p i cs (by simpa only [C.menP] using h) (by simpa only [C.men] using k)
 | .bmv _ cs,h,k=>OL p i cs (by simpa only [C.menP] using h) (by simpa only [C.men] using k)
 | .int ..,_,k=>by simp [C.men]at k
 | .bool _,_,k=>by simp [C.men]at k
 | .str _,_,k=>by simp [C.men]at k
 | .sl ..,_,k=>by simp [C.men]at k
 | .iptr ..,_,k=>by simp [C.men]at k
 | .nilp,_,k=>by simp [C.men]at k
 | .niface,_,k=>by simp [C.men]at k
 | .nils,_,k=>by simp [C.men]at k
 | .fn _,_,k=>by simp [C.men]at k
 | .held,_,k=>by simp [C.men]at k
 | .any,_,k=>by simp [C.men]at k
 | .gptr ..,_,k=>by simp [C.men]at k
 | .mp _,_,k=>by simp [C.men]at k
 | .isl ..,_,k=>by simp [C.men]at k
theorem OL (p:Ae→Bool) (i:Ae): ∀ cs:List C,BF p cs=false→Bd i cs=true→p i=false
 | [],_,k=>by simp [Bd]at k
 | c::cs,h,k=>by
   simp only [BF,Bool.or_eq_false_iff]at h
   simp only [Bd,Bool.or_eq_true]at k
   rcases k with k | k
   ·exact Xq p i c h.1 k
   ·exact OL p i cs h.2 k
end
mutual
theorem TC (p:Ae→Bool) (i:Ae): ∀ v:V,v.menP p=false→v.men i=true→p i=false
 | .c x,h,k=>(by grind [Xq,V.menP,V.men])
 | .agg cs,h,k=>(by grind [OL,V.menP,V.men])
 | .tup vs,h,k=>YO p i vs (by simpa only [V.menP] using h) (by simpa only [V.men] using k)
 | .g b v,h,k=>by
   simp only [V.men,Bool.and_eq_true]at k
   exact TC p i v (by simpa only [V.menP] using h) k.1
 | .undef,_,k=>by simp [V.men]at k
theorem YO (p:Ae→Bool) (i:Ae): ∀ vs:List V,Ig p vs=false→GG i vs=true→p i=false
 | [],_,k=>by simp [GG]at k
 | v::vs,h,k=>by
   simp only [Ig,Bool.or_eq_false_iff]at h
   simp only [GG,Bool.or_eq_true]at k
   rcases k with k | k
   ·exact TC p i v h.1 k
   ·exact YO p i vs h.2 k
end
theorem OM {p:Ae→Bool} {i:Ae} {c:C} (h:(Bx p c).men i=true):p i=false:=by
 grind [Bx,C.men,Xq]
theorem ON {p:Ae→Bool} {i:Ae}: ∀ {cs:List C},Bd i (cs.map (Bx p))=true→p i=false
 | [],h=>by simp [Bd]at h
 | c::cs,h=>by
   simp only [List.map_cons,Bd,Bool.or_eq_true]at h
   rcases h with h | h
   ·exact OM h
   ·exact ON h
theorem FR {p:Ae→Bool} {i:Ae} {v:V} (h:(AV p v).men i=true):p i=false:=by
 grind [AV,V.men,TC]
theorem MW {p:Ae→Bool} {i:Ae}: ∀ {vs:List V},GG i (vs.map (AV p))=true→p i=false
 | [],h=>by simp [GG]at h
 | v::vs,h=>by
   simp only [List.map_cons,GG,Bool.or_eq_true]at h
   rcases h with h | h
   ·exact FR h
   ·exact MW h
theorem OO {w:World} {G:Au} {p:Ae→Bool} {c:C} {v:Value} (h:Ac w G c v):Ac w G (Bx p c) v:=by
 unfold Bx;split
 ·simp only [Ac];exact h.one
 ·exact h
theorem HD {w:World} {G:Au} {p:Ae→Bool}: ∀ {cs:List C} {b o:Nat},Ai w G cs b o→Ai w G (cs.map (Bx p)) b o
 | [],_,_,_=>by grind
 | c::cs,b,o,h=>by
   simp only [Ai,List.map_cons]at h ⊢
   exact⟨h.1.imp fun v q=>⟨q.1,OO q.2⟩,HD h.2⟩
theorem FS {w:World} {G:Au} {p:Ae→Bool} {x:V} {v:Value} (h:Ab w G x v):Ab w G (AV p x) v:=by
 grind [AV,Ab]
theorem MX {w:World} {G:Au} {p:Ae→Bool}: ∀ {xs:List V} {vs:List Value},An w G xs vs→An w G (xs.map (AV p)) vs
 | [],vs,h=>by grind
 | x::xs,vs,h=>by
   simp only [An,List.map_cons]at h ⊢
   obtain⟨v,r,e,h1,h2⟩:=h
   exact⟨v,r,e,FS h1,MX h2⟩
theorem cu {p:Ae→Bool} {kv:List (Int×Int)}:[C.mp kv].map (Bx p)=[C.mp kv]:=by simp [Bx,C.menP]
theorem Xr {w:World} {G:Au} {p:Ae→Bool} {e:Ak} (h:AJ w G e):AJ w G (e.killP p):=by
 obtain⟨i,r,cs,pu⟩:=e
 cases pu with
 | true=>exact h
 | false=>
 unfold AJ at *
 cases r with
 | none=>
   obtain⟨b,h1,h2⟩:=h
   refine⟨b,h1,?_⟩
   rcases h2 with ⟨kv,es,h2,h3⟩ | ⟨T,cur,h2,h3,h4⟩
   ·dsimp only [Ak.killP]at h2 ⊢
    rw [h2,cu];exact .inl ⟨kv,es,rfl,h3⟩
   ·exact .inr ⟨T,cur,h2,by simpa [Ak.killP] using h3,HD h4⟩
 | some q=>
   obtain⟨E,n,len⟩:=q
   obtain⟨hl,v,h1,h2⟩:=h
   refine⟨by grind [Ak.killP],v,h1,?_⟩
   rcases h2 with h2 | ⟨b,cap,cur,e1,e2,e3,e4,e5,e6,e7⟩
   ·exact .inl h2
   ·exact .inr ⟨b,cap,cur,e1,e2,e3,e4,e5,e6,HD e7⟩
theorem cw {p:Ae→Bool} {i:Ae} {e:Ak} (hp:e.pu=true→Aj e.cs=true) (h:Bd i (e.killP p).cs =true):p i=false:=by
 obtain⟨j,r,cs,pu⟩:=e
 cases pu with
 | true=>rw [show (Ak.killP p ⟨j,r,cs,true⟩).cs =cs from rfl,AE i cs (hp rfl)]at h;cases h
 | false=>exact ON (cs:=cs) h
theorem AY.killP {w:World} {G:Au} {p:Ae→Bool} {e:Ak} (h:AY w G e):AY w G (e.killP p):=by
 obtain⟨i,r,cs,pu⟩:=e
 cases pu with
 | true=>exact h
 | false=>exact⟨h.1,fun hd=>absurd (h.2 hd).1 (by simp)⟩
theorem Jw {p:Ae→Bool} {e:Ak} (h:e.pu=true→Aj e.cs=true):(e.killP p).pu =true→Aj (e.killP p).cs =true:=by
 obtain⟨i,r,cs,pu⟩:=e
 cases pu with
 | true=>exact h
 | false=>intro hq;cases hq
theorem cx (cs:List C):BF (fun _=>false) cs=false:=by
 have key: ∀ c:C,c.menP (fun _=>false)=false:=by
  intro c
  induction c using C.rec (motive_2:=fun cs=>BF (fun _=>false) cs=false)<;>simp_all [C.menP,BF]
 induction cs<;>grind [BF]
theorem f5 (c:C):c.menP (fun _=>false)=false:=by
 have:=cx [c]
 simpa [BF] using this
theorem RK: ∀ cs:List C,cs.map (Bx (fun _=>false))=cs
 | []=>rfl
 | c::cs=>by rw [List.map_cons,RK cs,Bx,if_neg (by simp [f5])]
theorem Ak.killP_ff (e:Ak):e.killP (fun _=>false)=e:=by
 obtain⟨i,r,cs,_ | _⟩:=e
 all_goals grind [Ak.killP,RK]
structure Gn (F:Fr) (p q:Ae→Bool) (G G':Au) (w w':World):Prop where
 agree: ∀ i,p i=false→G'.blk i=G.blk i∧G'.own i=G.own i
 same: ∀ i b,q i=false→G.blk i=some b→w'.heap[b]? =w.heap[b]?
 keeps:BE G G' w w'
 outer:Dc w w'
 ext: ∀ b,b<F.w0.heap.size→ ¬F.old b→w'.heap[b]? =w.heap[b]?
 wr: ∀ b,G'.wr b↔F.av b∨ ∃ i,G'.blk i=some b
 inj: ∀ i j b,G'.blk i=some b→G'.blk j=some b→i=j
 lt: ∀ i b,G'.blk i=some b→b<w'.heap.size
 new: ∀ i b,G'.blk i=some b→F.w0.heap.size≤b∨F.old b
def St.killP (st:St) (p:Ae→Bool) (so:List Ak):St:={tm:=st.tm.map (AV p),so:=so,gh:=st.gh.map (AV p),pre:=st.pre}
section
variable {F:Fr} {st:St} {a:Act} {w w':World} {G G':Au} {p q:Ae→Bool}
theorem Gn.ent (h:R F st a w G) (t:Gn F p q G G' w w') {e:Ak} (he:e∈st.so) (hp:p e.id=false) (hq:q e.id=false):AJ w' G' (e.killP p):=by
 refine By t.keeps (fun i hi=>t.agree i (cw (h.pures e he) hi)) ?_ ?_ (Xr (h.store e he))
 ·rw [Ak.killP_id];exact t.agree _ hp
 ·intro b hb;rw [Ak.killP_id]at hb;exact t.same _ b hq hb
theorem Gn.deep (h:R F st a w G) (t:Gn F p q G G' w w') {e:Ak} (he:e∈st.so) (hp:p e.id=false) (hq:q e.id=false) (hm:Db e.id=true→ ∀ k,p (A9 k e.id)=false∧q (A9 k e.id)=false):AY w' G' (e.killP p):=by
 refine AY.mono t.keeps (by rw [Ak.killP_id];exact t.agree _ hp) (fun hd k=>?_) ?_ (fun hd k b hb=>?_) (h.deep e he).killP
 ·rw [Ak.killP_id]at hd ⊢;exact t.agree _ (hm hd k).1
 ·intro b hb;rw [Ak.killP_id]at hb;exact t.same _ b hq hb
 ·rw [Ak.killP_id]at hd hb;exact t.same _ b (hm hd k).2 hb
theorem Gn.rel (h:R F st a w G) (t:Gn F p q G G' w w') (st':St) (hl:st'.tm.length=st.tm.length) (hs: ∀ i,Ab w' G' (st'.tm.getD i .undef) (a.tmps.getD i Go.undef)) (hg:An w' G' st'.gh F.gv)
 (h1: ∀ e∈st'.so,AJ w' G' e) (h2: ∀ e∈st'.so,AY w' G' e) (h3: ∀ e∈st'.so,e.pu=true→Aj e.cs=true) (h4:(st'.so.map (·.id)).Nodup):R F st' a w' G' where
 dfr:=h.dfr
 size:=by rw [hl];exact h.size
 slots:=hs
 ghosts:=hg
 store:=h1
 deep:=h2
 pures:=h3
 nodup:=h4
 inj:=t.inj
 lt:=t.lt
 new:=t.new
 wr:=t.wr
 avlt:=h.avlt
 inv:=h.inv
 avold:=h.avold
 os:=t.outer.os.trans h.os
 tape:=t.outer.tape.trans h.tape
 output:=t.outer.output.trans h.output
 hsize:=Nat.le_trans h.hsize t.keeps.size
 ext:=fun b hb ho=>(t.ext b hb ho).trans (h.ext b hb ho)
theorem Gn.killed (h:R F st a w G) (t:Gn F p q G G' w w') (so:List Ak)
 (h1: ∀ e∈so,AJ w' G' e) (h2: ∀ e∈so,AY w' G' e) (h3: ∀ e∈so,e.pu=true→Aj e.cs=true) (h4:(so.map (·.id)).Nodup):R F (st.killP p so) a w' G':=by
 refine t.rel h (st.killP p so) (by simp [St.killP]) (fun i=>?_) ?_ h1 h2 h3 h4
 ·simp only [St.killP]
  rw [DB (by simp [AV,V.menP])]
  exact Ab.mono t.keeps _ _ (fun i hi=>t.agree i (FR hi)) (FS (h.slots i))
 ·exact An.mono t.keeps _ _ (fun i hi=>t.agree i (MW hi)) (MX h.ghosts)
theorem Gn.kept (h:R F st a w G) (t:Gn F (fun _=>false) q G G' w w') (so:List Ak)
 (h1: ∀ e∈so,AJ w' G' e) (h2: ∀ e∈so,AY w' G' e) (h3: ∀ e∈so,e.pu=true→Aj e.cs=true) (h4:(so.map (·.id)).Nodup):R F {st with so:=so} a w' G':=
 t.rel h {st with so:=so} rfl (fun i=>Ab.mono t.keeps _ _ (fun i _=>t.agree i rfl) (h.slots i)) (An.mono t.keeps _ _ (fun i _=>t.agree i rfl) h.ghosts) h1 h2 h3 h4
theorem Vs (h:R F st a w G) {i0:Ae} {b:Nat} (hb:G.blk i0=some b) {cur:Array Value} {T:TypeId} (hh:w.heap[b]? =some (.cells cur T (0,0))) (row:Array Value):Gn F (fun _=>false) (· ==i0) G G w (w.setRow b row) where
 agree:=(by grind)
 same:=fun i b' hi hb'=>setRow_other w b b' _ (fun e=>by
  have:=h.inj i i0 b' hb' (by grind)
  grind)
 keeps:=⟨by simp,fun k _ hw=>setRow_other w b k _ (fun e=>hw ((h.wr k).2 (by grind))),fun _ _ q=>q,fun i k h1 _=>by
  by_cases hkb:k=b
  ·subst hkb
   intro cur' T' fz' hq
   rw [hh]at hq
   injection hq with hq
   injection hq with _ hq _
   subst hq
   exact⟨_,_,setRow_heap w k cur row T (0,0) hh⟩
  grind [Bt.same,setRow_other]⟩
 outer:=⟨by simp,by simp,by simp⟩
 ext:=fun k hk ho=>setRow_other w b k _ (fun e=>by
  rcases h.new i0 b hb with q | q
  all_goals grind)
 wr:=h.wr
 inj:=h.inj
 lt:=fun i k hi=>by simpa using h.lt i k hi
 new:=h.new
theorem Eo (h:R F st a w G) (G':Au) (hw:G'.wr=fun b=>F.av b∨ ∃ i,G'.blk i=some b) (ha: ∀ i,p i=false→G'.blk i=G.blk i∧G'.own i=G.own i) (hs: ∀ i b,G'.blk i=some b→ ∃ j,G.blk j=some b)
 (hi: ∀ i j b,G'.blk i=some b→G'.blk j=some b→i=j):Gn F p (fun _=>false) G G' w w where
 agree:=ha
 same:=fun _ _ _ _=>rfl
 keeps:=⟨Nat.le_refl _,fun _ _ _=>rfl,fun b _ hb=>by
  rw [hw]at hb
  rw [h.wr]
  grind,fun _ _ _ _=>Bt.same rfl⟩
 outer:=⟨rfl,rfl,rfl⟩
 ext:=fun _ _ _=>rfl
 wr:=fun b=>by rw [hw]
 inj:=hi
 lt:=fun i b hb=>by obtain⟨j,hj⟩:=hs i b hb;exact h.lt j b hj
 new:=fun i b hb=>by obtain⟨j,hj⟩:=hs i b hb;exact h.new j b hj
theorem R.uniq (h:R F st a w G) {d e:Ak} (hd:d∈st.so) (he:e∈st.so) (hi:d.id=e.id):d=e:=by
 have:=List.pairwise_map.1 h.nodup
 rcases List.mem_iff_getElem.1 hd with ⟨i,hi1,rfl⟩
 rcases List.mem_iff_getElem.1 he with ⟨j,hj1,rfl⟩
 grind [List.pairwise_iff_getElem]
end
def St.lookD (st:St) (id:Ae):Option Ak:=st.so.find? (fun e=>e.id==id&&Db e.id)
theorem IS {st:St} {id:Ae} {e:Ak} (h:st.lookD id=some e):e∈st.so∧e.id=id∧Db id=true:=by
 have:=List.find?_some h
 simp only [Bool.and_eq_true,beq_iff_eq]at this
 exact⟨List.mem_of_find?_eq_some h,this.1,by grind⟩
def setE (id:Ae) (row:Option (TypeId×Nat×Nat)) (cells:List C) (e:Ak):Ak:=match e.id==id with
 | true=>⟨e.id,row,cells,e.pu⟩
 | false=>e
theorem TD (id:Ae) (row:Option (TypeId×Nat×Nat)) (cells:List C) (e:Ak):(setE id row cells e).id =e.id:=by grind [setE]
theorem CG {id:Ae} {row:Option (TypeId×Nat×Nat)} {cells:List C} {e:Ak} (h:e.id ≠ id):setE id row cells e=e:=by grind [setE]
theorem CH {id:Ae} {row:Option (TypeId×Nat×Nat)} {cells:List C} {e:Ak} (h:e.id=id):setE id row cells e=⟨e.id,row,cells,e.pu⟩:=by grind [setE]
def CI (id:Ae):Ae→Bool
 | m::_::j=>Nat.beq m 1000007&&j==id
 | _=>false
theorem Fa (id:Ae) (k:Nat) (j:Ae):CI id (A9 k j)=(j==id):=by simp [CI,A9]
theorem Gx {w:World} {G:Au}: ∀ {cs:List C} {b o j:Nat} {c:C},Ai w G cs b o→(∀ v d,cs[j]? =some d→w.cell? ⟨b,o+j,none⟩=some v→Ac w G d v→Ac w G c v)→Ai w G (cs.set j c) b o
 | [],_,_,_,_,h,_=>by grind
 | d::cs,b,o,0,c,h,hc=>by
   grind [Ai]
 | d::cs,b,o,j+1,c,h,hc=>by
   simp only [Ai]at h
   simp only [List.set_cons_succ,Ai]
   exact⟨h.1,Gx h.2 (fun v d hd hv=>hc v d (by simpa using hd) (by rw [show o+(j+1)=o+1+j by omega];exact hv))⟩
section
variable {F:Fr} {st:St} {a:Act} {w w':World} {G G':Au} {p q:Ae→Bool}
theorem R.deepRow (h:R F st a w G) {id:Ae} {e:Ak} (hl:st.lookD id=some e):e∈st.so∧e.id=id∧Db id=true∧BX id=false∧e.pu=true∧Aj e.cs=true∧C7 w G e∧ ∃ E n len,e.row=some (E,n,len):=by
 obtain⟨hm,hid,hd⟩:=IS hl
 obtain⟨h1,h2⟩:=h.deep e hm
 obtain⟨h3,h4,h5⟩:=h2 (by rw [hid];exact hd)
 refine⟨hm,hid,hd,by grind,h3,h.pures e hm h3,h5,?_⟩
 cases hr:e.row<;>grind
theorem R.inner (h:R F st a w G) {id:Ae} {e:Ak} (hl:st.lookD id=some e) {k n len:Nat} {E:TypeId} {cs:List C} (hk:e.cs[k]? =some (.isl E n len cs)):
 Aj cs=true∧AJ w G ⟨A9 k id,some (E,n,len),cs,true⟩∧ ∃ b v,G.blk id=some b∧w.cell? ⟨b,k,none⟩=some v∧G.own (A9 k id)=some v:=by
 obtain⟨hm,hid,hd,_,_,_,hi,_⟩:=h.deepRow hl
 have:=hi k E n len cs hk
 grind
theorem R.deepRel (h:R F st a w G) {id:Ae} {e:Ak} (hl:st.lookD id=some e) {b:Nat} (hb:G.blk id=some b): ∃ E n len v cap cur,e.row=some (E,n,len)∧e.cs.length=len*n∧G.own id=some v∧v= .slice (some ⟨b,0,none⟩) len cap∧w.heap[b]? =some (.cells cur E (0,0))∧len≤cap∧cap≤maxLen∧cur.size=cap*n∧Ai w G e.cs b 0:=by
 obtain⟨hm,hid,_,_,_,_,_,E,n,len,hr⟩:=h.deepRow hl
 have hE:=h.store e hm
 grind [AJ]
theorem Gn.ents (h:R F st a w G) (t:Gn F p q G G' w w') {id:Ae} {e:Ak} (hl:st.lookD id=some e) (f:Ak→Bool) (hf: ∀ d∈st.so,f d=true→d.id ≠ id→p d.id=false∧q d.id=false∧(Db d.id=true→ ∀ k,p (A9 k d.id)=false∧q (A9 k d.id)=false))
 {cells:List C} {row:Option (TypeId×Nat×Nat)} (hrs:row.isSome=true) (h1:AJ w' G' ⟨id,row,cells,true⟩) (h2:C7 w' G' ⟨id,row,cells,true⟩) (h3:Aj cells=true):
 (∀ d∈((st.so.filter f).map (Ak.killP p)).map (setE id row cells),AJ w' G' d)∧(∀ d∈((st.so.filter f).map (Ak.killP p)).map (setE id row cells),AY w' G' d)∧
 (∀ d∈((st.so.filter f).map (Ak.killP p)).map (setE id row cells),d.pu=true→Aj d.cs=true)∧((((st.so.filter f).map (Ak.killP p)).map (setE id row cells)).map (·.id)).Nodup :=by
 obtain⟨hm,hid,hd,hmk,hpu,hpe,hi,E,n,len,hr⟩:=h.deepRow hl
 have key: ∀ d∈((st.so.filter f).map (Ak.killP p)).map (setE id row cells),(d=⟨id,row,cells,true⟩)∨ ∃ x∈st.so,f x=true∧x.id ≠ id∧d=x.killP p:=by
  intro d hd
  simp only [List.map_map,List.mem_map,List.mem_filter,Function.comp]at hd
  obtain⟨x,⟨hx,hfx⟩,rfl⟩:=hd
  by_cases hxi:x.id=id
  ·have:=h.uniq hx hm (hxi.trans hid.symm)
   subst this
   left
   have hk:x.killP p=x:=by
    obtain⟨i,r,cs,pu⟩:=x
    simp only at hpu;subst hpu;rfl
   grind [CH]
  grind [CG,Ak.killP_id]
 refine⟨fun d hd'=>?_,fun d hd'=>?_,fun d hd'=>?_,?_⟩
 ·rcases key d hd' with rfl | ⟨x,hx,hfx,hxi,rfl⟩
  ·exact h1
  ·obtain⟨k1,k2,_⟩:=hf x hx hfx hxi
   exact t.ent h hx k1 k2
 ·rcases key d hd' with rfl | ⟨x,hx,hfx,hxi,rfl⟩
  ·exact⟨hmk,fun _=>⟨rfl,hrs,h2⟩⟩
  ·obtain⟨k1,k2,k3⟩:=hf x hx hfx hxi
   exact t.deep h hx k1 k2 k3
 ·rcases key d hd' with rfl | ⟨x,hx,hfx,hxi,rfl⟩
  ·grind
  ·exact Jw (h.pures x hx)
 ·have:(((st.so.filter f).map (Ak.killP p)).map (setE id row cells)).map (·.id)=(st.so.filter f).map (·.id):=by
   simp_all [TD,Ak.killP_id]
  rw [this]
  exact List.Sublist.nodup (by grind [List.filter_sublist]) h.nodup
theorem KK (l:List Ak):l.map (Ak.killP fun _=>false)=l:=by
 induction l<;>grind [Ak.killP_ff]
end
end Go.PL
namespace Go.PL
open Go Go.RowKit
section
variable {F:Fr} {st:St} {a:Act} {w w':World} {G G':Au} {p q:Ae→Bool}
theorem Gy (l:List Ak):l.filter (fun _=>true)=l:=(by simp_all)
theorem BD {id j:Ae} (h:BX id=false) (k:Nat):id ≠ A9 k j:=fun e=>by rw [e]at h;cases h
theorem MY (h:R F st a w G) {i0:Ae} (d:Ak) (hd:d∈st.so) (hne:d.id ≠ i0) (hmk: ∀ k,Db d.id=true→A9 k d.id ≠ i0):
 (fun _=>false:Ae→Bool) d.id=false∧(d.id==i0)=false∧(Db d.id=true→ ∀ k,(fun _=>false:Ae→Bool) (A9 k d.id)=false∧(A9 k d.id==i0)=false):=
 (by grind)
def St.setD (st:St) (id:Ae) (row:Option (TypeId×Nat×Nat)) (cells:List C):St:={st with so:=st.so.map (setE id row cells)}
theorem R.innerStored (h:R F st a w G) {id:Ae} {e:Ak} (hl:st.lookD id=some e) {k n len:Nat} {E:TypeId} {cs:List C} (hk:e.cs[k]? =some (.isl E n len cs)) {b:Nat} (hb:G.blk (A9 k id)=some b)
 {off:Nat} {xs:List C} {vs:List Value} (hx:Ag w G xs vs) (hoff:off+xs.length≤cs.length) (hp:Aj xs=true):
 ∃ cur T,w.heap[b]? =some (.cells cur T (0,0))∧off+vs.length≤cur.size∧
   R F (st.setD id e.row (e.cs.set k (.isl E n len (cs.take off++xs++cs.drop (off+xs.length))))) a (w.setRow b (cur.toList.take off++vs++cur.toList.drop (off+vs.length)).toArray) G:=by
 obtain⟨hm,hid,hd,hmk,hpu,hpe,hi,E0,n0,len0,hr⟩:=h.deepRow hl
 obtain⟨hpc,hE,bo,vo,hbo,hcell,hown⟩:=h.inner hl hk
 unfold AJ at hE
 obtain⟨hcl,v,h1,h2 | ⟨b',cap,cur,e1,e2,e3,e4,e5,e6,e7⟩⟩:=hE
 ·grind
 rw [show (⟨A9 k id,some (E,n,len),cs,true⟩:Ak).id =A9 k id from rfl]at h1 e2
 rw [hb]at e2;injection e2 with e2;subst e2
 obtain⟨us,r1,r2⟩:=e7.list
 simp only at r1 e7 hcl
 have hlx:=hx.length
 have hlu:=r1.length
 have hle:cs.length≤cur.size:=by simp_all [Nat.mul_le_mul_right]
 have hpre:=EF e3 r2
 refine⟨cur,E,e3,by omega,?_⟩
 have t:=Vs h hb e3 (cur.toList.take off++vs++cur.toList.drop (off+vs.length)).toArray
 have hnew:=setRow_heap w b cur (cur.toList.take off++vs++cur.toList.drop (off+vs.length)).toArray E (0,0) e3
 have hsplit:(us.take off++vs++us.drop (off+vs.length))++cur.toList.drop us.length=(cur.toList.take off++vs++cur.toList.drop (off+vs.length)).toArray.toList :=by
  grind
 have hrange:=A0 hnew hsplit
 have hl2:Ag w G (cs.take off++xs++cs.drop (off+xs.length)) (us.take off++vs++us.drop (off+vs.length)):=by
  rw [hlx]
  exact((r1.take off).append hx).append (r1.drop _)
 have hrow':=Ai.of_list (Ag.mono t.keeps _ _ (fun _ _=>⟨rfl,rfl⟩) hl2) hrange
 have hlen:(cs.take off++xs++cs.drop (off+xs.length)).length =cs.length:=by simp;omega
 have hcur:(cur.toList.take off++vs++cur.toList.drop (off+vs.length)).toArray.size =cur.size:=by simp;omega
 have hpx:Aj (cs.take off++xs++cs.drop (off+xs.length))=true:=by
  grind [Bb,Hs,Ht]
 have hne:bo ≠ b:=fun q=>BD hmk k (h.inj _ _ bo hbo (by rw [q];exact hb))
 have hcs: ∀ o,(w.setRow b (cur.toList.take off++vs++cur.toList.drop (off+vs.length)).toArray).cell? ⟨bo,o,none⟩=w.cell? ⟨bo,o,none⟩:=(by grind [cell?_of_block',setRow_other])
 obtain⟨E1,n1,len1,v1,cap1,cur1,g1,g2,g3,g4,g5,g6,g7,g8,g9⟩:=h.deepRel hl hbo
 have hcells:Aj (e.cs.set k (.isl E n len (cs.take off++xs++cs.drop (off+xs.length))))=true:=by
  rw [BI,List.all_eq_true]at hpe ⊢
  intro c hc
  rcases List.mem_or_eq_of_mem_set hc with q | q
  ·grind
  ·rw [q];rfl
 have hrel:AJ (w.setRow b (cur.toList.take off++vs++cur.toList.drop (off+vs.length)).toArray) G ⟨id,e.row,e.cs.set k (.isl E n len (cs.take off++xs++cs.drop (off+xs.length))),true⟩:=by
  unfold AJ
  rw [g1]
  refine⟨by grind,v1,g3, .inr ⟨bo,cap1,cur1,g4,hbo,by grind [setRow_other],g6,g7,g8,?_⟩⟩
  refine Gx (Ai.mono t.keeps _ _ _ (fun _ _=>⟨rfl,rfl⟩) hcs g9) (fun u d hd _ hrd=>?_)
  grind [Ac]
 have hin:C7 (w.setRow b (cur.toList.take off++vs++cur.toList.drop (off+vs.length)).toArray) G ⟨id,e.row,e.cs.set k (.isl E n len (cs.take off++xs++cs.drop (off+xs.length))),true⟩:=by
  intro j E2 n2 len2 cs2 hj
  simp only [List.getElem?_set]at hj
  split at hj
  ·rename_i hkj
   subst hkj
   split at hj
   ·injection hj with hj
    injection hj with q1 q2 q3 q4
    subst q1 q2 q3 q4
    refine⟨hpx,?_,bo,vo,hbo,by grind,hown⟩
    unfold AJ
    exact⟨by grind,v,h1, .inr ⟨b,cap,_,e1,hb,hnew,e4,e5,by grind,hrow'⟩⟩
   ·cases hj
  ·rename_i hkj
   obtain⟨k1,k2,b2,v2,k3,k4,k5⟩:=h.inner hl hj
   refine⟨k1,By t.keeps (fun _ _=>⟨rfl,rfl⟩) ⟨rfl,rfl⟩ (fun b3 hb3=>setRow_other w b b3 _ (fun q=>?_)) k2,b2,v2,k3,?_,k5⟩
   ·have:=h.inj _ _ b3 hb3 (by rw [q];exact hb)
    grind [J4]
   grind
 have hents:=t.ents h hl (fun _=>true) (fun d hd' _ hne'=>MY h d hd' (fun q2=>BD (h.deep d hd').1 k q2) (by grind [J4])) (by rw [g1];rfl) hrel hin hcells
 rw [Gy,KK]at hents
 exact t.kept h _ hents.1 hents.2.1 hents.2.2.1 hents.2.2.2
def W9:C→Bool
 | .isl .. =>false
 | _=>true
theorem R.deepStored (h:R F st a w G) {id:Ae} {e:Ak} (hl:st.lookD id=some e) {b:Nat} (hb:G.blk id=some b)
 {off:Nat} {xs:List C} {vs:List Value} (hx:Ag w G xs vs) (hoff:off+xs.length≤e.cs.length) (hp:Aj xs=true) (hn:xs.all W9=true):
 ∃ cur T,w.heap[b]? =some (.cells cur T (0,0))∧off+vs.length≤cur.size∧
   R F (st.setD id e.row (e.cs.take off++xs++e.cs.drop (off+xs.length))) a (w.setRow b (cur.toList.take off++vs++cur.toList.drop (off+vs.length)).toArray) G:=by
 obtain⟨hm,hid,hd,hmk,hpu,hpe,hi,E0,n0,len0,hr⟩:=h.deepRow hl
 obtain⟨E,n,len,v,cap,cur,g1,g2,g3,g4,g5,g6,g7,g8,g9⟩:=h.deepRel hl hb
 obtain⟨us,r1,r2⟩:=g9.list
 have hlx:=hx.length
 have hlu:=r1.length
 have hle:e.cs.length≤cur.size:=by simp_all [Nat.mul_le_mul_right]
 have hpre:=EF g5 r2
 refine⟨cur,E,g5,by omega,?_⟩
 have t:=Vs h hb g5 (cur.toList.take off++vs++cur.toList.drop (off+vs.length)).toArray
 have hnew:=setRow_heap w b cur (cur.toList.take off++vs++cur.toList.drop (off+vs.length)).toArray E (0,0) g5
 have hsplit:(us.take off++vs++us.drop (off+vs.length))++cur.toList.drop us.length=(cur.toList.take off++vs++cur.toList.drop (off+vs.length)).toArray.toList :=by
  grind
 have hrange:=A0 hnew hsplit
 have hl2:Ag w G (e.cs.take off++xs++e.cs.drop (off+xs.length)) (us.take off++vs++us.drop (off+vs.length)):=by
  rw [hlx]
  exact((r1.take off).append hx).append (r1.drop _)
 have hrow':=Ai.of_list (Ag.mono t.keeps _ _ (fun _ _=>⟨rfl,rfl⟩) hl2) hrange
 have hlen:(e.cs.take off++xs++e.cs.drop (off+xs.length)).length =e.cs.length:=by simp;omega
 have hcur:(cur.toList.take off++vs++cur.toList.drop (off+vs.length)).toArray.size =cur.size:=by simp;omega
 have hpx:Aj (e.cs.take off++xs++e.cs.drop (off+xs.length))=true:=by
  grind [Bb,Hs,Ht]
 have hrel:AJ (w.setRow b (cur.toList.take off++vs++cur.toList.drop (off+vs.length)).toArray) G ⟨id,e.row,e.cs.take off++xs++e.cs.drop (off+xs.length),true⟩:=by
  unfold AJ
  rw [g1]
  exact⟨by grind,v,g3, .inr ⟨b,cap,_,g4,hb,hnew,g6,g7,by grind,hrow'⟩⟩
 have hin:C7 (w.setRow b (cur.toList.take off++vs++cur.toList.drop (off+vs.length)).toArray) G ⟨id,e.row,e.cs.take off++xs++e.cs.drop (off+xs.length),true⟩:=by
  intro j E2 n2 len2 cs2 hj
  simp only at hj
  have hj2:(j<off∨off+xs.length≤j)∧e.cs[j]? =some (.isl E2 n2 len2 cs2):=by
   rw [List.append_assoc]at hj
   have htl:(e.cs.take off).length =off:=by grind
   by_cases q1:j<off
   ·grind
   ·rw [List.getElem?_append_right (by omega),htl]at hj
    by_cases q2:j<off+xs.length
    ·rw [List.getElem?_append_left (by omega)]at hj
     have:=List.all_eq_true.1 hn _ (List.mem_of_getElem? hj)
     cases this
    grind
  obtain⟨k1,k2,b2,v2,k3,k4,k5⟩:=h.inner hl hj2.2
  rw [hb]at k3;injection k3 with k3;subst k3
  refine⟨k1,By t.keeps (fun _ _=>⟨rfl,rfl⟩) ⟨rfl,rfl⟩ (fun b3 hb3=>setRow_other w b b3 _ (fun q=>?_)) k2,b,v2,hb,?_,k5⟩
  ·exact BD hmk j (h.inj _ _ b hb (by rw [←q];exact hb3))
  ·have hjl:j<e.cs.length:=(by grind)
   simp only [World.cell?,hnew]
   simp only [World.cell?,g5]at k4
   have hold:cur.toList[j]? =some v2:=by grind
   have htl:(cur.toList.take off).length =off:=by grind
   have:(cur.toList.take off++vs++cur.toList.drop (off+vs.length))[j]? =some v2:=by
    rw [List.append_assoc]
    rcases hj2.1 with q1 | q1
    ·grind
    ·rw [List.getElem?_append_right (by omega),htl,List.getElem?_append_right (by omega),List.getElem?_drop]
     grind
   grind
 have hents:=t.ents h hl (fun _=>true) (fun d hd' _ hne'=>MY h d hd' hne' (by grind [BD])) (by rw [g1];rfl) hrel hin hpx
 rw [Gy,KK]at hents
 exact t.kept h _ hents.1 hents.2.1 hents.2.2.1 hents.2.2.2
theorem DW {id i:Ae} (h:CI id i=true):BX i=true:=by
 match i,h with
 | m::k::j,h=>
   simp only [CI,Bool.and_eq_true]at h
   exact h.1
theorem YP {id i:Ae} (h:CI id i=true): ∃ k,i=A9 k id:=by
 match i,h with
 | m::k::j,h=>
   simp only [CI,Bool.and_eq_true,beq_iff_eq]at h
   have h1:=Nat.eq_of_beq_eq_true h.1
   subst h1
   rw [h.2]
   exact⟨k,rfl⟩
def pD (r id i:Ae):Bool:=i==r||CI id i
theorem cy (h:R F st a w G) {r id:Ae} (hr:BX r=false) {d:Ak} (hd:d∈st.so) (h1:d.id ≠ r) (h2:d.id ≠ id):pD r id d.id=false∧(Db d.id=true→ ∀ k,pD r id (A9 k d.id)=false∧(fun _=>false:Ae→Bool) (A9 k d.id)=false):=by
 refine⟨?_,fun _ k=>⟨?_,rfl⟩⟩
 ·unfold pD
  rw [show (d.id==r)=false by simpa using h1,Bool.false_or]
  cases hq:CI id d.id with
  | false=>rfl
  | true=>
    have:=DW hq
    rw [(h.deep d hd).1]at this;cases this
 ·unfold pD
  rw [show (A9 k d.id==r)=false by simpa using (BD hr k).symm,Bool.false_or,Fa]
  grind
theorem R.absorbA (h:R F st a w G) {id r:Ae} {e er:Ak} (hl:st.lookD id=some e) (hr:st.look r=some er) {E:TypeId} {n len:Nat} (hrow:er.row=some (E,n,len)) (hpr:er.pu=true)
 {k b:Nat} {v:Value} (hb:G.blk id=some b) (hc:w.cell? ⟨b,k,none⟩=some v) (ho:G.own r=some v) (hk:k<e.cs.length):
 ∃ G',R F (st.killP (pD r id) (((st.so.filter (fun d=>d.id != r)).map (Ak.killP (pD r id))).map (setE id e.row (e.cs.set k (.isl E n len er.cs))))) a w G'∧G'.own id=G.own id∧G'.blk id=G.blk id∧ ∀ i,pD r id i=false→G'.blk i=G.blk i∧G'.own i=G.own i:=by
 obtain⟨hm,hid,hd,hmk,hpu,hpe,hi,E0,n0,len0,hr0⟩:=h.deepRow hl
 obtain⟨hmr,hidr⟩:=AK hr
 have hndr:=DR hr
 have hmkr:BX r=false:=by rw [←hidr];exact(h.deep er hmr).1
 have hrid:r ≠ id:=(by grind)
 have hpc:=h.pures er hmr hpr
 let G':Au:=⟨fun i=>if i=r then none else if i=A9 k id then G.blk r else G.blk i,fun i=>if i=r then none else if i=A9 k id then G.own r else G.own i,fun b=>F.av b∨ ∃ i,(if i=r then none else if i=A9 k id then G.blk r else G.blk i)=some b⟩
 have hag: ∀ i,pD r id i=false→G'.blk i=G.blk i∧G'.own i=G.own i:=by
  intro i hpi
  simp only [pD,Bool.or_eq_false_iff,beq_eq_false_iff_ne]at hpi
  have h2:i ≠ A9 k id:=(by grind [Fa])
  grind
 have t:Gn F (pD r id) (fun _=>false) G G' w w:=Eo h G' rfl hag (by grind) (fun i j b hib hjb=>by
  simp only [G']at hib hjb
  split at hib
  ·cases hib
  ·rename_i q1
   split at hjb
   ·cases hjb
   ·rename_i q2
    split at hib<;>split at hjb
    ·simp_all
    ·exact absurd (h.inj _ _ b hjb hib) q2
    ·exact absurd (h.inj _ _ b hib hjb) q1
    ·exact h.inj _ _ b hib hjb)
 have hne:id ≠ A9 k id:=BD hmk k
 have gid:G'.blk id=G.blk id∧G'.own id=G.own id:=(by grind)
 have gk:G'.blk (A9 k id)=G.blk r∧G'.own (A9 k id)=G.own r:=by
  have:A9 k id ≠ r:=(BD hmkr k).symm
  grind
 have gj: ∀ j,j ≠ k→G'.blk (A9 j id)=G.blk (A9 j id)∧G'.own (A9 j id)=G.own (A9 j id):=by
  intro j hj
  have h1:A9 j id ≠ r:=(BD hmkr j).symm
  have h2:A9 j id ≠ A9 k id:=fun q=>hj (J4 q).1
  grind
 obtain⟨E1,n1,len1,v1,cap1,cur1,g1,g2,g3,g4,g5,g6,g7,g8,g9⟩:=h.deepRel hl hb
 have hcells:Aj (e.cs.set k (.isl E n len er.cs))=true:=by
  rw [BI,List.all_eq_true]at hpe ⊢
  intro c hc
  rcases List.mem_or_eq_of_mem_set hc with q | q
  ·grind
  ·rw [q];rfl
 have hno: ∀ cs:List C,Aj cs=true→FE (fun i=>Bd i cs=true) G G':=fun cs hp i hi'=>absurd (show Bd i cs=true from hi') (by rw [AE i cs hp];simp)
 have hrel:AJ w G' ⟨id,e.row,e.cs.set k (.isl E n len er.cs),true⟩:=by
  unfold AJ
  rw [g1]
  refine⟨by grind,v1,by grind, .inr ⟨b,cap1,cur1,g4,by grind,g5,g6,g7,g8,?_⟩⟩
  refine Gx (Ai.mono t.keeps _ _ _ (hno _ hpe) (fun _=>rfl) g9) (fun u d _ _ hrd=>?_)
  simp only [Ac]
  exact hrd.one
 have hin:C7 w G' ⟨id,e.row,e.cs.set k (.isl E n len er.cs),true⟩:=by
  intro j E2 n2 len2 cs2 hj
  simp only [List.getElem?_set]at hj
  split at hj
  ·rename_i hkj
   subst hkj
   ·injection hj with hj
    injection hj with q1 q2 q3 q4
    subst q1 q2 q3 q4
    refine⟨hpc,?_,b,v,by grind,hc,by grind⟩
    have hE:=h.store er hmr
    unfold AJ at hE ⊢
    rw [hrow]at hE
    obtain⟨c1,v2,c2,c3⟩:=hE
    refine⟨c1,v2,by grind,?_⟩
    rcases c3 with ⟨p,c3,c4,c5⟩ | ⟨b',cap,cur,e1,e2,e3,e4,e5,e6,e7⟩
    ·grind
    ·exact .inr ⟨b',cap,cur,e1,by grind,e3,e4,e5,e6,Ai.mono t.keeps _ _ _ (hno _ hpc) (fun _=>rfl) e7⟩
  ·rename_i hkj
   obtain⟨k1,k2,b2,v2,k3,k4,k5⟩:=h.inner hl hj
   have gjj:=gj j (fun q=>hkj q.symm)
   exact⟨k1,By t.keeps (hno _ k1) gjj (fun _ _=>rfl) k2,b2,v2,by grind,k4,by grind⟩
 have hents:=t.ents h hl (fun d=>d.id != r) (fun d hd' hf hne'=>by
  have:=cy h (id:=id) hmkr hd' (by simpa using hf) hne'
  grind) (by rw [g1];rfl) hrel hin hcells
 exact⟨G',t.killed h _ hents.1 hents.2.1 hents.2.2.1 hents.2.2.2,gid.2,gid.1,hag⟩
theorem R.absorb (h:R F st a w G) {id r:Ae} {e er:Ak} (hl:st.lookD id=some e) (hr:st.look r=some er) {E:TypeId} {n len:Nat} (hrow:er.row=some (E,n,len)) (hpr:er.pu=true)
 {k b:Nat} {v:Value} (hb:G.blk id=some b) (hc:w.cell? ⟨b,k,none⟩=some v) (ho:G.own r=some v) (hk:k<e.cs.length):
 ∃ G',R F (st.killP (pD r id) (((st.so.filter (fun d=>d.id != r)).map (Ak.killP (pD r id))).map (setE id e.row (e.cs.set k (.isl E n len er.cs))))) a w G'∧G'.own id=G.own id:=by
 obtain⟨G',a,b,_⟩:=h.absorbA hl hr hrow hpr hb hc ho hk
 grind
theorem R.extract (h:R F st a w G) {id r:Ae} {e:Ak} (hl:st.lookD id=some e) {k n len:Nat} {E:TypeId} {cs:List C} (hk:e.cs[k]? =some (.isl E n len cs)) (hmkr:BX r=false) (hndr:Db r=false):
 ∃ G',R F (st.killP (pD r id) (⟨r,some (E,n,len),cs,true⟩::((st.so.filter (fun d=>d.id != r)).map (Ak.killP (pD r id))).map (setE id e.row (e.cs.set k .any)))) a w G'∧
   ∃ b v,G.blk id=some b∧w.cell? ⟨b,k,none⟩=some v∧G'.own r=some v∧v.oneCell'=true:=by
 obtain⟨hm,hid,hd,hmk,hpu,hpe,hi,E0,n0,len0,hr0⟩:=h.deepRow hl
 obtain⟨hpc,hE,b,v,hb,hc,ho⟩:=h.inner hl hk
 have hrid:r ≠ id:=(by grind)
 let G':Au:=⟨fun i=>if i=r then G.blk (A9 k id)else if i=A9 k id then none else G.blk i,fun i=>if i=r then G.own (A9 k id)else if i=A9 k id then none else G.own i,fun b=>F.av b∨ ∃ i,(if i=r then G.blk (A9 k id)else if i=A9 k id then none else G.blk i)=some b⟩
 have hag: ∀ i,pD r id i=false→G'.blk i=G.blk i∧G'.own i=G.own i:=by
  intro i hpi
  simp only [pD,Bool.or_eq_false_iff,beq_eq_false_iff_ne]at hpi
  have h2:i ≠ A9 k id:=(by grind [Fa])
  grind
 have t:Gn F (pD r id) (fun _=>false) G G' w w:=Eo h G' rfl hag (by grind) (fun i j b hib hjb=>by
  simp only [G']at hib hjb
  split at hib<;>split at hjb
  ·simp_all
  ·split at hjb
   ·cases hjb
   ·rename_i q2 q3;exact absurd (h.inj _ _ b hjb hib) q3
  ·split at hib
   ·cases hib
   ·rename_i q3;exact absurd (h.inj _ _ b hib hjb) q3
  ·split at hib
   ·cases hib
   ·split at hjb
    ·cases hjb
    ·exact h.inj _ _ b hib hjb)
 have hne:id ≠ A9 k id:=BD hmk k
 have gid:G'.blk id=G.blk id∧G'.own id=G.own id:=(by grind)
 have gr:G'.blk r=G.blk (A9 k id)∧G'.own r=G.own (A9 k id):=(by grind)
 have gj: ∀ j,j ≠ k→G'.blk (A9 j id)=G.blk (A9 j id)∧G'.own (A9 j id)=G.own (A9 j id):=by
  intro j hj
  have h1:A9 j id ≠ r:=(BD hmkr j).symm
  have h2:A9 j id ≠ A9 k id:=fun q=>hj (J4 q).1
  grind
 obtain⟨E1,n1,len1,v1,cap1,cur1,g1,g2,g3,g4,g5,g6,g7,g8,g9⟩:=h.deepRel hl hb
 have hcells:Aj (e.cs.set k .any)=true:=by
  rw [BI,List.all_eq_true]at hpe ⊢
  intro c hc
  rcases List.mem_or_eq_of_mem_set hc with q | q
  ·grind
  ·rw [q];rfl
 have hno: ∀ cs:List C,Aj cs=true→FE (fun i=>Bd i cs=true) G G':=fun cs hp i hi'=>absurd (show Bd i cs=true from hi') (by rw [AE i cs hp];simp)
 have hrel:AJ w G' ⟨id,e.row,e.cs.set k .any,true⟩:=by
  unfold AJ
  rw [g1]
  refine⟨by grind,v1,by grind, .inr ⟨b,cap1,cur1,g4,by grind,g5,g6,g7,g8,?_⟩⟩
  refine Gx (Ai.mono t.keeps _ _ _ (hno _ hpe) (fun _=>rfl) g9) (fun u d _ _ hrd=>?_)
  grind [Ac]
 have hin:C7 w G' ⟨id,e.row,e.cs.set k .any,true⟩:=by
  intro j E2 n2 len2 cs2 hj
  simp only [List.getElem?_set]at hj
  split at hj
  ·grind
  ·rename_i hkj
   obtain⟨k1,k2,b2,v2,k3,k4,k5⟩:=h.inner hl hj
   have gjj:=gj j (fun q=>hkj q.symm)
   exact⟨k1,By t.keeps (hno _ k1) gjj (fun _ _=>rfl) k2,b2,v2,by grind,k4,by grind⟩
 have hents:=t.ents h hl (fun d=>d.id != r) (fun d hd' hf hne'=>by
  have:=cy h (id:=id) hmkr hd' (by simpa using hf) hne'
  grind) (by rw [g1];rfl) hrel hin hcells
 have hone:v.oneCell'=true:=by
  unfold AJ at hE
  obtain⟨_,v2,c2,c3⟩:=hE
  rw [show (⟨A9 k id,some (E,n,len),cs,true⟩:Ak).id =A9 k id from rfl,ho]at c2
  injection c2 with c2;subst c2
  rcases c3 with ⟨p,rfl,_⟩ | ⟨b',cap,cur,rfl,_⟩<;>rfl
 refine⟨G',t.killed h _ ?_ ?_ ?_ ?_,b,v,hb,hc,by grind,hone⟩
 ·intro x hx
  rcases List.mem_cons.1 hx with rfl | hx
  ·unfold AJ at hE ⊢
   obtain⟨c1,v2,c2,c3⟩:=hE
   refine⟨c1,v2,by grind,?_⟩
   rcases c3 with ⟨p,c3,c4,c5⟩ | ⟨b',cap,cur,e1,e2,e3,e4,e5,e6,e7⟩
   ·grind
   ·exact .inr ⟨b',cap,cur,e1,by grind,e3,e4,e5,e6,Ai.mono t.keeps _ _ _ (hno _ hpc) (fun _=>rfl) e7⟩
  grind
 ·intro x hx
  rcases List.mem_cons.1 hx with rfl | hx
  all_goals grind [AY.triv]
 ·grind
 ·rw [List.map_cons]
  refine List.nodup_cons.2 ⟨?_,hents.2.2.2⟩
  simp only [List.map_map,List.mem_map,List.mem_filter,Function.comp,TD,Ak.killP_id,not_exists,not_and]
  grind
theorem R.deepen' (h:R F st a w G) {r id:Ae} {er:Ak} (hr:st.look r=some er) {E:TypeId} {n len:Nat} (hrow:er.row=some (E,n,len)) (hpr:er.pu=true) (hn:er.cs.all W9=true) (hd:Db id=true) (hmk:BX id=false):
 ∃ G',R F (st.killP (fun i=>i==r||(i==id||CI id i)) (⟨id,some (E,n,len),er.cs,true⟩::((st.so.filter (fun d=>d.id != r&&d.id != id)).map (Ak.killP (fun i=>i==r||(i==id||CI id i)))))) a w G'∧G'.own id=G.own r∧ ∀ i,i ≠ r→i ≠ id→G'.own i=G.own i:=by
 obtain⟨hmr,hidr⟩:=AK hr
 have hndr:=DR hr
 have hmkr:BX r=false:=by rw [←hidr];exact(h.deep er hmr).1
 have hrid:r ≠ id:=(by grind)
 have hpc:=h.pures er hmr hpr
 let G':Au:=⟨fun i=>if i=r then none else if i=id then G.blk r else G.blk i,fun i=>if i=r then none else if i=id then G.own r else G.own i,fun b=>F.av b∨ ∃ i,(if i=r then none else if i=id then G.blk r else G.blk i)=some b⟩
 have t:Gn F (fun i=>i==r||(i==id||CI id i)) (fun _=>false) G G' w w:=Eo h G' rfl (by grind) (by grind) (fun i j b hib hjb=>by
  simp only [G']at hib hjb
  split at hib
  ·cases hib
  ·rename_i q1
   split at hjb
   ·cases hjb
   ·rename_i q2
    split at hib<;>split at hjb
    ·simp_all
    ·exact absurd (h.inj _ _ b hjb hib) q2
    ·exact absurd (h.inj _ _ b hib hjb) q1
    ·exact h.inj _ _ b hib hjb)
 have gid:G'.blk id=G.blk r∧G'.own id=G.own r:=(by grind)
 have hno: ∀ cs:List C,Aj cs=true→FE (fun i=>Bd i cs=true) G G':=fun cs hp i hi'=>absurd (show Bd i cs=true from hi') (by rw [AE i cs hp];simp)
 have hp: ∀ d∈st.so,d.id ≠ r→d.id ≠ id→(fun i=>i==r||(i==id||CI id i)) d.id=false∧(Db d.id=true→ ∀ k,(fun i=>i==r||(i==id||CI id i)) (A9 k d.id)=false∧(fun _=>false:Ae→Bool) (A9 k d.id)=false):=by
  intro d hd' h1 h2
  have hof:CI id d.id=false:=by
   cases hq:CI id d.id with
   | false=>rfl
   | true=>
     have:=DW hq
     rw [(h.deep d hd').1]at this;cases this
  refine⟨by grind,fun _ k=>⟨?_,rfl⟩⟩
  grind [BD,Fa]
 refine⟨G',t.killed h _ ?_ ?_ ?_ ?_,gid.2,(by grind)⟩
 ·intro x hx
  rcases List.mem_cons.1 hx with rfl | hx
  ·have hE:=h.store er hmr
   unfold AJ at hE ⊢
   rw [hrow]at hE
   obtain⟨c1,v2,c2,c3⟩:=hE
   refine⟨c1,v2,by grind,?_⟩
   rcases c3 with ⟨p,c3,c4,c5⟩ | ⟨b',cap,cur,e1,e2,e3,e4,e5,e6,e7⟩
   ·grind
   ·exact .inr ⟨b',cap,cur,e1,by grind,e3,e4,e5,e6,Ai.mono t.keeps _ _ _ (hno _ hpc) (fun _=>rfl) e7⟩
  ·simp only [List.mem_map,List.mem_filter,Bool.and_eq_true,bne_iff_ne]at hx
   obtain⟨y,⟨hy,h1,h2⟩,rfl⟩:=hx
   exact t.ent h hy (hp y hy h1 h2).1 rfl
 ·intro x hx
  rcases List.mem_cons.1 hx with rfl | hx
  ·refine⟨hmk,fun _=>⟨rfl,rfl,fun k E2 n2 len2 cs2 hk=>?_⟩⟩
   have:=List.all_eq_true.1 hn _ (List.mem_of_getElem? hk)
   cases this
  ·simp only [List.mem_map,List.mem_filter,Bool.and_eq_true,bne_iff_ne]at hx
   obtain⟨y,⟨hy,h1,h2⟩,rfl⟩:=hx
   exact t.deep h hy (hp y hy h1 h2).1 rfl (hp y hy h1 h2).2
 ·intro x hx
  rcases List.mem_cons.1 hx with rfl | hx
  ·grind
  ·simp only [List.mem_map,List.mem_filter]at hx
   obtain⟨y,⟨hy,_⟩,rfl⟩:=hx
   exact Jw (h.pures y hy)
 ·rw [List.map_cons]
  refine List.nodup_cons.2 ⟨?_,?_⟩
  ·simp only [List.map_map,List.mem_map,List.mem_filter,Function.comp,Ak.killP_id,not_exists,not_and,Bool.and_eq_true,bne_iff_ne]
   grind
  ·simp only [List.map_map,Function.comp_def,Ak.killP_id]
   exact List.Sublist.nodup (by grind [List.filter_sublist]) h.nodup
theorem R.deepen (h:R F st a w G) {r id:Ae} {er:Ak} (hr:st.look r=some er) {E:TypeId} {n len:Nat} (hrow:er.row=some (E,n,len)) (hpr:er.pu=true) (hn:er.cs.all W9=true) (hd:Db id=true) (hmk:BX id=false):
 ∃ G',R F (st.killP (fun i=>i==r||(i==id||CI id i)) (⟨id,some (E,n,len),er.cs,true⟩::((st.so.filter (fun d=>d.id != r&&d.id != id)).map (Ak.killP (fun i=>i==r||(i==id||CI id i)))))) a w G'∧G'.own id=G.own r:=by
 obtain⟨G',q1,q2,_⟩:=h.deepen' hr hrow hpr hn hd hmk
 grind
theorem cz (h:R F st a w G) (id:Ae) (nb:Option Nat) (nv:Option Value) (ho:Dc w w') (hs:w.heap.size≤w'.heap.size) (hblk: ∀ b,b<w.heap.size→(G.blk id ≠ some b)→w'.heap[b]? =w.heap[b]?)
 (hext: ∀ b,b<F.w0.heap.size→ ¬F.old b→w'.heap[b]? =w.heap[b]?)
 (hn: ∀ b,nb=some b→(w.heap.size≤b∨(G.blk id=some b∧Bt w w' b))∧b<w'.heap.size):Gn F (· ==id) (· ==id) G (Bo F G id nb nv) w w' where
 agree:=(by grind [Bo])
 same:=fun i b hi hb=>hblk b (h.lt i b hb) (fun q=>by
  have:=h.inj i id b hb q
  grind)
 keeps:=h.keeps id nb nv hs hblk (by grind)
 outer:=ho
 ext:=hext
 wr:=fun b=>Iff.rfl
 inj:=by
  intro i j b hi hj
  simp only [Bo]at hi hj
  split at hi<;>split at hj
  ·simp_all
  ·rename_i q1 q2
   rcases (hn b hi).1 with q | q
   ·exact absurd (h.lt j b hj) (by omega)
   ·exact absurd (h.inj j id b hj q.1) q2
  ·rename_i q1 q2
   rcases (hn b hj).1 with q | q
   ·exact absurd (h.lt i b hi) (by omega)
   ·exact absurd (h.inj i id b hi q.1) q1
  ·exact h.inj i j b hi hj
 lt:=by
  intro i b hi
  simp only [Bo]at hi
  split at hi
  ·grind
  ·exact Nat.lt_of_lt_of_le (h.lt i b hi) hs
 new:=by
  intro i b hi
  simp only [Bo]at hi
  split at hi
  ·rcases (hn b hi).1 with q | q
   ·grind
   ·exact h.new id b q.1
  ·exact h.new i b hi
theorem R.deepAppended (h:R F st a w G) {id:Ae} {e:Ak} (hl:st.lookD id=some e) {E n len m:Nat} (hrow:e.row=some (E,n,len))
 {v v':Value} {xs us:List Value} {cs:List C} (hob:v.ownBlock=G.blk id) (h1:Ag w G e.cs xs) (h2:Ag w G cs us) (hxc: ∀ b j u,G.blk id=some b→xs[j]? =some u→w.cell? ⟨b,j,none⟩=some u)
 (hold:w.ownsRow 0 E n v len xs) (hnew:w'.ownsRow 0 E n v' (len+m) (xs++us)) (hg:w.grownBy w' v.ownBlock) (hfr:v'.ownBlock=v.ownBlock∨ ∀ b,v'.ownBlock=some b→w.heap.size≤b)
 (hp:Aj cs=true) (hn:cs.all W9=true):
 R F (st.killP (· ==id) ((st.so.map (Ak.killP (· ==id))).map (setE id (some (E,n,len+m)) (e.cs++cs)))) a w' (Bo F G id v'.ownBlock (some v'))∧v'.oneCell'=true:=by
 obtain⟨hm,hid,hd,hmk,hpu,hpe,hi,_⟩:=h.deepRow hl
 have hblk: ∀ b,b<w.heap.size→G.blk id ≠ some b→w'.heap[b]? =w.heap[b]? :=fun b hb hne=>hg.block b hb (by grind)
 have hnb: ∀ b,v'.ownBlock=some b→w.heap.size≤b∨(G.blk id=some b∧Bt w w' b):=by
  intro b hb
  rcases hfr with q | q
  ·refine .inr ⟨by grind,?_⟩
   have hb2:v.ownBlock=some b:=by grind
   intro cur T fz hc
   rcases hnew.2 with ⟨r,_⟩ | ⟨g,cap,cur',r,_,r2,_⟩
   ·rw [r]at hb;cases hb
   ·rw [r]at hb
    simp only [Value.ownBlock,Option.some.injEq]at hb
    subst hb
    rcases hold.2 with ⟨r3,_⟩ | ⟨g3,cap3,cur3,r3,_,r4,_⟩
    all_goals grind [Value.ownBlock]
  grind
 have hlt: ∀ b,v'.ownBlock=some b→b<w'.heap.size:=fun b hb=>(hnew.lt b hb).2
 have hone:v'.oneCell'=true:=by
  rcases hnew.2 with ⟨q,_⟩ | ⟨g,cap,cur,q,_⟩<;>rw [q]<;>rfl
 have t:=cz h id v'.ownBlock (some v') ⟨hg.os,hg.tape,hg.output⟩ hg.size hblk (fun b hb hold2=>by
  refine hblk b (Nat.lt_of_lt_of_le hb h.hsize) (fun q=>?_)
  rcases h.new id b q with q2 | q2
  all_goals grind) (by grind)
 have hpx:Aj (e.cs++cs)=true:=by rw [Bb,hpe,hp];rfl
 have hl1:=h1.length
 have hl2:=h2.length
 have hln:=hnew.1
 have hno: ∀ cs:List C,Aj cs=true→FE (fun i=>Bd i cs=true) G (Bo F G id v'.ownBlock (some v')):=fun cs hp i hi'=>absurd (show Bd i cs=true from hi') (by rw [AE i cs hp];simp)
 have gid:(Bo F G id v'.ownBlock (some v')).blk id=v'.ownBlock∧(Bo F G id v'.ownBlock (some v')).own id=some v':=by simp [Bo]
 have gj: ∀ j,(Bo F G id v'.ownBlock (some v')).blk (A9 j id)=G.blk (A9 j id)∧(Bo F G id v'.ownBlock (some v')).own (A9 j id)=G.own (A9 j id):=fun j=>t.agree _ (by grind [BD])
 have hrel:AJ w' (Bo F G id v'.ownBlock (some v')) ⟨id,some (E,n,len+m),e.cs++cs,true⟩:=by
  unfold AJ
  refine⟨by grind,v',gid.2,?_⟩
  rcases hnew.2 with ⟨q,h0⟩ | ⟨g,cap,cur,q,_,q2,q3,q4,q5,q6⟩
  ·exact .inl ⟨none,q,h0,by rw [gid.1,q];rfl⟩
  ·refine .inr ⟨g,cap,cur,q,by rw [gid.1,q];rfl,q2,q3,q4,q5,?_⟩
   refine Ai.of_list (vs:=xs++us) (Ag.mono t.keeps _ _ (hno _ hpx) (h1.append h2)) ?_
   grind [A0,List.take_append_drop]
 have hin:C7 w' (Bo F G id v'.ownBlock (some v')) ⟨id,some (E,n,len+m),e.cs++cs,true⟩:=by
  intro j E2 n2 len2 cs2 hj
  simp only at hj
  have hj2:e.cs[j]? =some (.isl E2 n2 len2 cs2):=by
   by_cases q:j<e.cs.length
   ·grind
   ·rw [List.getElem?_append_right (by omega)]at hj
    have:=List.all_eq_true.1 hn _ (List.mem_of_getElem? hj)
    cases this
  have hjl:j<e.cs.length:=(by grind)
  obtain⟨k1,k2,b2,v2,k3,k4,k5⟩:=h.inner hl hj2
  have hxj:xs[j]? =some v2:=by
   grind
  refine⟨k1,By t.keeps (hno _ k1) (gj j) (fun b hb=>hblk b (h.lt _ b hb) (fun q=>BD hmk j (h.inj _ _ b q hb))) k2,?_⟩
  rcases hnew.2 with ⟨q,h0⟩ | ⟨g,cap,cur,q,_,q2,q3,q4,q5,q6⟩
  ·grind
  ·refine⟨g,v2,by rw [gid.1,q];rfl,?_,by grind⟩
   have hr:=A0 q2 (us:=xs++us) (rest:=cur.toList.drop ((len+m)*n)) (by rw [←q6,List.take_append_drop])
   have:=hr j v2 (by grind)
   grind
 have hents:=t.ents h hl (fun _=>true) (by grind [BD]) rfl hrel hin hpx
 rw [Gy]at hents
 exact⟨t.killed h _ hents.1 hents.2.1 hents.2.2.1 hents.2.2.2,hone⟩
def NH:C→C
 | .isl _ _ len cs=> .sl len cs
 | c=>c
def pF (id i:Ae):Bool:=i==id||CI id i
def LT (id:Ae) (len:Nat) (cells:List C):C→C
 | .osl i=>match i==id with
   | true=> .sl len cells
   | false=>Bx (pF id) (.osl i)
 | c=>Bx (pF id) c
def I8 (id:Ae) (len:Nat) (cells:List C):V→V
 | .c x=> .c (LT id len cells x)
 | .agg cs=> .agg (cs.map (LT id len cells))
 | v=>AV (pF id) v
def Ak.frD (id:Ae) (len:Nat) (cells:List C) (e:Ak):Ak:=match e with
 | ⟨i,r,cs,true⟩=>⟨i,r,cs,true⟩
 | ⟨i,r,cs,false⟩=>⟨i,r,cs.map (LT id len cells),false⟩
def St.frD (st:St) (id:Ae) (len:Nat) (cells:List C):St:={tm:=st.tm.map (I8 id len cells),so:=(st.so.filter (fun d=>d.id != id)).map (Ak.frD id len cells),gh:=st.gh.map (I8 id len cells),pre:=st.pre}
theorem NT {id:Ae} {len:Nat} {cells:List C} {c:C} (h: ∀ i,c= .osl i→i ≠ id):LT id len cells c=Bx (pF id) c:=by
 cases c<;>simp only [LT]
 grind
theorem YQ {id:Ae} {len:Nat} {cells:List C}:LT id len cells (.osl id)= .sl len cells:=by simp only [LT,beq_self_eq_true]
theorem OP {id:Ae} {len:Nat} {cells:List C} (hk:BE G G' w w') (ha: ∀ i,pF id i=false→G'.blk i=G.blk i∧G'.own i=G.own i) (ho: ∀ v,G.own id=some v→Ac w' G' (.sl len cells) v) {c:C} {v:Value} (h:Ac w G c v):Ac w' G' (LT id len cells c) v:=by
 by_cases hc:c= .osl id
 ·grind [YQ,Ac]
 ·rw [NT (fun i q hi=>hc (by rw [q,hi]))]
  exact Ac.mono hk _ _ (fun i hi=>ha i (OM hi)) (OO h)
theorem Vt {id:Ae} {len:Nat} {cells:List C} (hk:BE G G' w w') (ha: ∀ i,pF id i=false→G'.blk i=G.blk i∧G'.own i=G.own i) (ho: ∀ v,G.own id=some v→Ac w' G' (.sl len cells) v): ∀ {cs:List C} {vs:List Value},Ag w G cs vs→Ag w' G' (cs.map (LT id len cells)) vs
 | [],[],_=>by simp [Ag]
 | [],_::_,h=>by simp [Ag]at h
 | _::_,[],h=>by simp [Ag]at h
 | c::cs,v::vs,h=>by
   simp only [Ag,List.map_cons]at h ⊢
   exact⟨OP hk ha ho h.1,Vt hk ha ho h.2⟩
theorem Vu {id:Ae} {len:Nat} {cells:List C} (hk:BE G G' w w') (ha: ∀ i,pF id i=false→G'.blk i=G.blk i∧G'.own i=G.own i) (ho: ∀ v,G.own id=some v→Ac w' G' (.sl len cells) v) {x:V} {v:Value} (h:Ab w G x v):Ab w' G' (I8 id len cells x) v:=by
 cases x with
 | c x=>grind [I8,Ab,OP]
 | agg cs=>
   grind [I8,Ab,Vt]
 | tup vs=>exact Ab.mono hk _ _ (fun i hi=>ha i (FR hi)) (FS h)
 | g b x=>exact Ab.mono hk _ _ (fun i hi=>ha i (FR hi)) (FS h)
 | undef=>exact Ab.mono hk _ _ (fun i hi=>ha i (FR hi)) (FS h)
theorem RL {id:Ae} {len:Nat} {cells:List C} (hk:BE G G' w w') (ha: ∀ i,pF id i=false→G'.blk i=G.blk i∧G'.own i=G.own i) (ho: ∀ v,G.own id=some v→Ac w' G' (.sl len cells) v): ∀ {xs:List V} {vs:List Value},An w G xs vs→An w' G' (xs.map (I8 id len cells)) vs
 | [],vs,h=>by simpa [An] using h
 | x::xs,vs,h=>by
   simp only [An,List.map_cons]at h ⊢
   obtain⟨v,r,e,h1,h2⟩:=h
   exact⟨v,r,e,Vu hk ha ho h1,RL hk ha ho h2⟩
theorem Jx {id:Ae} {len:Nat} {cells:List C} (hk:BE G G' w w') (ha: ∀ i,pF id i=false→G'.blk i=G.blk i∧G'.own i=G.own i) (ho: ∀ v,G.own id=some v→Ac w' G' (.sl len cells) v): ∀ {cs:List C} {b o:Nat},(∀ o,w'.cell? ⟨b,o,none⟩=w.cell? ⟨b,o,none⟩)→Ai w G cs b o→Ai w' G' (cs.map (LT id len cells)) b o
 | [],_,_,_,_=>by grind [Ai]
 | c::cs,b,o,hc,h=>by
   simp only [Ai,List.map_cons]at h ⊢
   obtain⟨⟨v,h1,h2⟩,h3⟩:=h
   exact⟨⟨v,by rw [hc];exact h1,OP hk ha ho h2⟩,Jx hk ha ho hc h3⟩
theorem kf {f:C→C}: ∀ {cs:List C} {b o:Nat},(∀ k c,cs[k]? =some c→ ∃ v,w.cell? ⟨b,o+k,none⟩=some v∧Ac w G (f c) v)→Ai w G (cs.map f) b o
 | [],_,_,_=>by grind [Ai]
 | c::cs,b,o,h=>by
   simp only [Ai,List.map_cons]
   refine⟨by simpa using h 0 c (by simp),kf (fun k c' hc=>?_)⟩
   have:=h (k+1) c' (by simpa using hc)
   rw [show o+1+k=o+(k+1) by omega];exact this
theorem R.freezeD (h:R F st a w G) {id:Ae} {e:Ak} (hl:st.lookD id=some e) {E:TypeId} {n len:Nat} (hrow:e.row=some (E,n,len)) {cells:List C} (hcs:e.cs.map NH=cells): ∃ G',R F (st.frD id len cells) a w G':=by
 subst hcs
 obtain⟨hm,hid,hd,hmk,hpu,hpe,hi,_⟩:=h.deepRow hl
 let G':Au:=⟨fun i=>if pF id i=true then none else G.blk i,fun i=>if pF id i=true then none else G.own i,fun b=>F.av b∨ ∃ i,(if pF id i=true then none else G.blk i)=some b⟩
 have hag: ∀ i,pF id i=false→G'.blk i=G.blk i∧G'.own i=G.own i:=(by grind)
 have t:Gn F (pF id) (fun _=>false) G G' w w:=Eo h G' rfl hag (by grind) (fun i j b hib hjb=>by
  simp only [G']at hib hjb
  split at hib
  ·cases hib
  ·split at hjb
   ·cases hjb
   ·exact h.inj _ _ b hib hjb)
 have hno: ∀ cs:List C,Aj cs=true→FE (fun i=>Bd i cs=true) G G':=fun cs hp i hi'=>absurd (show Bd i cs=true from hi') (by rw [AE i cs hp];simp)
 have hnw: ∀ i b,pF id i=true→G.blk i=some b→ ¬G'.wr b:=by
  intro i b hp hb hw
  simp only [G']at hw
  rcases hw with q | ⟨j,q⟩
  ·rcases h.new i b hb with q2 | q2
   ·have:=h.avlt b q;omega
   ·exact h.avold b q2 q
  ·split at q
   ·cases q
   ·rename_i hj;exact hj (by rw [h.inj j i b q hb];exact hp)
 have hpid:pF id id=true:=by simp [pF]
 have hpmk: ∀ k,pF id (A9 k id)=true:=fun k=>by simp [pF,Fa]
 have hcell: ∀ (b:Nat),G.blk id=some b→ ∀ k c,e.cs[k]? =some c→ ∀ v,w.cell? ⟨b,k,none⟩=some v→Ac w G c v→(NH c).pure =true∧Ac w G' (NH c) v:=by
  intro b hb k c hk v hv hr
  have hpc:c.pure=true:=by
   grind [BI]
  by_cases hc: ∃ E n l cs,c= .isl E n l cs
  ·obtain⟨E2,n2,l2,cs2,rfl⟩:=hc
   obtain⟨k1,k2,b2,v2,k3,k4,k5⟩:=h.inner hl hk
   rw [hb]at k3;injection k3 with k3;subst k3
   rw [hv]at k4;injection k4 with k4;subst k4
   refine⟨rfl,?_⟩
   simp only [NH,Ac]
   unfold AJ at k2
   obtain⟨c1,v2,c2,c3⟩:=k2
   rw [show (⟨A9 k id,some (E2,n2,l2),cs2,true⟩:Ak).id =A9 k id from rfl,k5]at c2
   injection c2 with c2;subst c2
   refine⟨k1,?_⟩
   rcases c3 with ⟨p,rfl,rfl,_⟩ | ⟨b',cap,cur,rfl,e2,e3,e4,e5,e6,e7⟩
   ·grind
   ·refine⟨_,cap,rfl,e4,e5,fun h0=>?_, .inr ⟨b',0,rfl,hnw _ b' (hpmk k) e2,h.lt _ b' e2,Ai.mono t.keeps _ _ _ (hno _ k1) (fun _=>rfl) e7⟩⟩
    simp_all
  ·have:NH c=c:=by
    cases c<;>first | rfl | grind
   rw [this]
   exact⟨hpc,Ac.mono t.keeps _ _ (fun i hi'=>absurd (show c.men i=true from hi') (by rw [GT i c hpc];simp)) hr⟩
 have ho: ∀ v,G.own id=some v→Ac w G' (.sl len (e.cs.map NH)) v:=by
  intro v hv
  have hE:=h.store e hm
  unfold AJ at hE
  rw [hrow]at hE
  obtain⟨c1,v1,c2,c3⟩:=hE
  rw [hid,hv]at c2;injection c2 with c2;subst c2
  rcases c3 with ⟨p,rfl,rfl,c5⟩ | ⟨b,cap,cur,rfl,e2,e3,e4,e5,e6,e7⟩
  ·have:e.cs=[]:=by
    grind
   rw [this]
   simp only [Ac]
   grind
  ·rw [hid]at e2
   obtain⟨vs,r1,r2⟩:=e7.list
   have hl1:=r1.length
   have hat: ∀ k c,e.cs[k]? =some c→ ∃ v,w.cell? ⟨b,k,none⟩=some v∧Ac w G c v:=by
    intro k c hk
    obtain⟨u,hu,hr⟩:=r1.get k c hk
    exact⟨u,by simpa using r2 k u hu,hr⟩
   have hpall:Aj (e.cs.map NH)=true:=by
    rw [BI,List.all_eq_true]
    intro c hc
    obtain⟨d,hd,rfl⟩:=List.mem_map.1 hc
    obtain⟨k,hk,rfl⟩:=List.mem_iff_getElem.1 hd
    obtain⟨u,q1,q2⟩:=hat k _ (List.getElem?_eq_getElem hk)
    grind
   simp only [Ac]
   refine⟨hpall,_,cap,rfl,e4,e5,fun h0=>?_, .inr ⟨b,0,rfl,hnw id b hpid e2,h.lt id b e2,kf (fun k c hk=>?_)⟩⟩
   ·simp_all
   grind
 have hfid: ∀ d:Ak,(d.frD id len (e.cs.map NH)).id =d.id:=fun d=>by obtain⟨i,r,cs,_ | _⟩:=d<;>rfl
 have hpn: ∀ d∈st.so,d.id ≠ id→pF id d.id=false∧(Db d.id=true→ ∀ k,pF id (A9 k d.id)=false):=by
  intro d hd' h2
  refine⟨?_,fun _ k=>?_⟩
  ·unfold pF
   rw [show (d.id==id)=false by simpa using h2,Bool.false_or]
   cases hq:CI id d.id with
   | false=>rfl
   | true=>
     have:=DW hq
     rw [(h.deep d hd').1]at this;cases this
  ·unfold pF
   rw [show (A9 k d.id==id)=false by simpa using (BD hmk k).symm,Bool.false_or,Fa]
   grind
 refine⟨G',t.rel h _ (by simp [St.frD]) (fun i=>?_) ?_ ?_ ?_ ?_ ?_⟩
 ·simp only [St.frD]
  rw [DB (by simp [I8,AV,V.menP])]
  exact Vu t.keeps hag ho (h.slots i)
 ·exact RL t.keeps hag ho h.ghosts
 ·intro x hx
  simp only [St.frD,List.mem_map,List.mem_filter,bne_iff_ne]at hx
  obtain⟨d,⟨hd',hne⟩,rfl⟩:=hx
  have hE:=h.store d hd'
  have hgd:=hag d.id (hpn d hd' hne).1
  have hpd:=h.pures d hd'
  obtain⟨i,r,ds,pu⟩:=d
  cases pu with
  | true=>exact By t.keeps (hno _ (hpd rfl)) hgd (fun _ _=>rfl) hE
  | false=>
    unfold AJ at hE ⊢
    cases r with
    | none=>
      obtain⟨b,h1,h2⟩:=hE
      refine⟨b,by grind,?_⟩
      rcases h2 with ⟨kv,es,h2,h3⟩ | ⟨T,cur,h2,h3,h4⟩
      ·dsimp only [Ak.frD]at h2 ⊢
       rw [h2]
       exact .inl ⟨kv,es,by simp [LT,Bx,C.menP],h3⟩
      ·exact .inr ⟨T,cur,h2,by simpa [Ak.frD] using h3,Jx t.keeps hag ho (fun _=>rfl) h4⟩
    | some q=>
      obtain⟨E',n',len'⟩:=q
      obtain⟨hl',v,h1,h2⟩:=hE
      refine⟨by grind [Ak.frD],v,by grind,?_⟩
      rcases h2 with ⟨p,e1,e2,e3⟩ | ⟨b,cap,cur,e1,e2,e3,e4,e5,e6,e7⟩
      ·grind
      ·exact .inr ⟨b,cap,cur,e1,by grind,e3,e4,e5,e6,Jx t.keeps hag ho (fun _=>rfl) e7⟩
 ·intro x hx
  simp only [St.frD,List.mem_map,List.mem_filter,bne_iff_ne]at hx
  obtain⟨d,⟨hd',hne⟩,rfl⟩:=hx
  have hD:=h.deep d hd'
  have hD2:AY w G (d.frD id len (e.cs.map NH)):=by
   obtain⟨i,r,cs,pu⟩:=d
   cases pu with
   | true=>exact hD
   | false=>exact⟨hD.1,fun hq=>absurd (hD.2 hq).1 (by simp)⟩
  refine AY.mono t.keeps (by grind) (fun hq k=>?_) (fun _ _=>rfl) (fun _ _ _ _=>rfl) hD2
  grind
 ·intro x hx
  simp only [St.frD,List.mem_map,List.mem_filter]at hx
  obtain⟨d,⟨hd',_⟩,rfl⟩:=hx
  have:=h.pures d hd'
  obtain⟨i,r,cs,pu⟩:=d
  cases pu with
  | true=>exact this
  | false=>intro hq;cases hq
 ·simp only [St.frD,List.map_map,Function.comp_def,hfid]
  exact List.Sublist.nodup (by grind [List.filter_sublist]) h.nodup
end
end Go.PL
namespace Go.PL
open Go Go.RowKit
inductive DS where
 | ld (E:TypeId) (n len:Nat) (cs:List C)
 | ix (E:TypeId) (n len:Nat) (cs:List C)
 | rd (E:TypeId) (n len:Nat) (cs:List C) (u:V)
 | ln (E:TypeId) (n len:Nat) (cs:List C)
 | st (E:TypeId) (n len ln:Nat) (cs cells:List C)
 | ps (cells:List C)
 | ab (cells:List C)
 | lx (E:TypeId) (n len:Nat) (cs:List C)
 | nw (t:Option (Nat×List C))
 | bs
 | aa (len:Nat) (cells:List C)
section
variable {F:Fr} {st:St} {a:Act} {w:World} {G:Au}
theorem R.lookD_of (h:R F st a w G) {e:Ak} {id:Ae} (he:e∈st.so) (hid:e.id=id) (hd:Db id=true):st.lookD id=some e:=by
 unfold St.lookD
 cases hf:st.so.find? (fun e=>e.id==id&&Db e.id)with
 | none=>
   grind
 | some x=>
   have h1:=List.mem_of_find?_eq_some hf
   have h2:=List.find?_some hf
   simp only [Bool.and_eq_true,beq_iff_eq]at h2
   rw [h.uniq h1 he (h2.1.trans hid.symm)]
theorem R.look_of (h:R F st a w G) {e:Ak} {id:Ae} (he:e∈st.so) (hid:e.id=id) (hd:Db id=false) (hr:e.row.isSome=true):st.look id=some e:=by
 have hM:e.isM=false:=by
  grind [Ak.isM]
 unfold St.look
 cases hf:st.so.find? (fun e=>e.id==id&& !(e.isM||Db e.id))with
 | none=>
   grind
 | some x=>
   have h1:=List.mem_of_find?_eq_some hf
   have h2:=List.find?_some hf
   simp only [Bool.and_eq_true,beq_iff_eq]at h2
   rw [h.uniq h1 he (h2.1.trans hid.symm)]
theorem R.reslot (h:R F st a w G) {d:Nat} {x:V} (hx:Ab w G x (a.tmps.getD d Go.undef)):R F (st.put (some d) x) a w G:={
 dfr:=h.dfr
 size:=by simp [St.put,h.size]
 slots:=fun i=>by
  simp only [St.put,List.getD_eq_getElem?_getD,List.getElem?_set]
  by_cases hi:d=i
  ·subst hi
   by_cases hl:d<st.tm.length
   ·grind
   ·rw [if_pos rfl,if_neg hl,Option.getD_none];simp only [Ab]
  ·rw [if_neg hi]
   have:=h.slots i
   grind
 ghosts:=h.ghosts,store:=h.store,deep:=h.deep,pures:=h.pures,nodup:=h.nodup
 inj:=h.inj,lt:=h.lt,new:=h.new,wr:=h.wr,avlt:=h.avlt,inv:=h.inv,avold:=h.avold,os:=h.os,tape:=h.tape,output:=h.output,hsize:=h.hsize,ext:=h.ext}
end
section
variable {P:Program} {I:World→Prop} {o:Oper} {st st':St} {K:St→Prop} {F:Fr} {a:Act} {w:World} {G:Au}
theorem KM (h:R F st a w G) {x:Operand} (hl:AC (AD st true x).1):Ab w G (AD st true x).2 (a.eval x):=by
 obtain⟨h1,h2⟩:=IR hl
 rw [←h2]
 exact h.arg rfl h1
def oH (P:Program) (st:St) (o:Oper) (E n len:Nat) (cs:List C):Option (List Prop×St):=match o.op with
 | .load T x=>match (AD st true x).2,Fd P T with
   | .c (.ptr id k),some (ag,n')=>match !ag&&Nat.beq n' 1,st.lookD id with
     | true,some e=>some ((AD st true x).1++[e.cs[k]? =some (.isl E n len cs)],st.put o.dst (.c (.osl (1000007::k::id))))
     | _,_=>none
   | _,_=>none
 | _=>none
theorem f8 {E n len:Nat} {cs:List C} {l:List Prop} (h:oH P st o E n len cs=some (l,st')) (hl:AC l) (hK:K st'):Dk P I o st K:=by
 unfold oH at h
 split at h
 ·rename_i T x ho
  split at h
  ·rename_i id k ag n' hx ht
   split at h
   ·rename_i e hb he
    simp only [Option.some.injEq,Prod.mk.injEq]at h
    obtain⟨rfl,rfl⟩:=h
    obtain⟨q1,q2,_⟩:=Af.1 hl
    intro F a w G Q hI hR
    have hxv:=KM hR q1
    rw [hx]at hxv
    simp only [Ab,Ac]at hxv
    obtain⟨b,hb1,hv⟩:=hxv
    obtain⟨_,hE,b2,v,k3,k4,k5⟩:=hR.inner he q2
    rw [hb1]at k3;injection k3 with k3;subst k3
    simp only [Bool.and_eq_true,Bool.not_eq_true']at hb
    obtain⟨d,i,hu,hd,_⟩:=Br ht
    have hone:v.oneCell'=true:=by
     unfold AJ at hE
     obtain⟨_,v2,c2,c3⟩:=hE
     rw [show (⟨A9 k id,some (E,n,len),cs,true⟩:Ak).id =A9 k id from rfl,k5]at c2
     injection c2 with c2;subst c2
     rcases c3 with ⟨p,rfl,_⟩ | ⟨b',cap,cur,rfl,_⟩<;>rfl
    have hrun:(execOp a.eval o).run P w= .ok (.value v) w:=by
     simp_all [execOp,Cd]
    exact Ap hrun ⟨_,G,hK,hR.put (by simp only [Ab,Ac];exact⟨k5,hone⟩)⟩
   ·cases h
  ·cases h
 ·cases h
def oI (P:Program) (st:St) (o:Oper) (E n len:Nat) (cs:List C):Option (List Prop×St):=match o.op with
 | .indexAddr t x y=>match (AD st true x).2,(AD st true y).2,BZ P t with
   | .c (.osl (m::k::id)), .c (.int _ i),some (_,n')=>match Nat.beq m 1000007&&Nat.beq n' n,st.lookD id with
     | true,some e=>some (((AD st true x).1++(AD st true y).1)++[e.cs[k]? =some (.isl E n len cs),0≤i∧i<(len:Int)],st.put o.dst (.c (.ptr (m::k::id) (i.toNat*n'))))
     | _,_=>none
   | _,_,_=>none
 | _=>none
theorem f9 {E n len:Nat} {cs:List C} {l:List Prop} (h:oI P st o E n len cs=some (l,st')) (hl:AC l) (hK:K st'):Dk P I o st K:=by
 unfold oI at h
 split at h
 ·rename_i t x y ho
  split at h
  ·rename_i m k id ki i E' n' hx hy ht
   split at h
   ·rename_i e hb he
    simp only [Option.some.injEq,Prod.mk.injEq]at h
    obtain⟨rfl,rfl⟩:=h
    obtain⟨q1,q2,q3,_⟩:=Af.1 hl
    obtain⟨q1,q1'⟩:=Af.1 q1
    intro F a w G Q hI hR
    have hxv:=KM hR q1
    have hyv:=KM hR q1'
    rw [hx]at hxv
    rw [hy]at hyv
    simp only [Ab,Ac]at hxv hyv
    simp only [Bool.and_eq_true]at hb
    have hm:=Nat.eq_of_beq_eq_true hb.1
    subst hm
    obtain⟨_,hE,_⟩:=hR.inner he q2
    unfold AJ at hE
    obtain⟨_,v2,c2,c3⟩:=hE
    rw [show (⟨A9 k id,some (E,n,len),cs,true⟩:Ak).id =A9 k id from rfl,show A9 k id=1000007::k::id from rfl,hxv.1]at c2
    injection c2 with c2
    rcases c3 with ⟨p,_,c4,_⟩ | ⟨b',cap,cur,c3,e2,_⟩
    ·omega
    ·have hrun:(execOp a.eval o).run P w= .ok (.value (.pointer (some ⟨b',0+i.toNat*n',none⟩))) w:=by
      simp [execOp,ho,hyv,c2,c3,Ck ht b' 0 len cap ki i q3.1 q3.2 w]
     exact Ap hrun ⟨_,G,hK,hR.put (by simp only [Ab,Ac];exact⟨b',e2,by grind⟩)⟩
   ·cases h
  ·cases h
 ·cases h
def oJ (P:Program) (st:St) (o:Oper) (E n len:Nat) (cs:List C) (u:V):Option (List Prop×St):=match o.op with
 | .load T x=>match (AD st true x).2,Fd P T with
   | .c (.ptr (m::k::id) off),some (ag,n')=>match Nat.beq m 1000007&&(ag||Nat.blt 0 n'),st.lookD id with
     | true,some e=>some ((AD st true x).1++[e.cs[k]? =some (.isl E n len cs),off+n'≤cs.length∧toV ag off n' cs=u],st.put o.dst u)
     | _,_=>none
   | _,_=>none
 | _=>none
theorem gc {E n len:Nat} {cs:List C} {u:V} {l:List Prop} (h:oJ P st o E n len cs u=some (l,st')) (hl:AC l) (hK:K st'):Dk P I o st K:=by
 unfold oJ at h
 split at h
 ·rename_i T x ho
  split at h
  ·rename_i m k id off ag n' hx ht
   split at h
   ·rename_i e hb he
    simp only [Option.some.injEq,Prod.mk.injEq]at h
    obtain⟨rfl,rfl⟩:=h
    obtain⟨q1,q2,q3,_⟩:=Af.1 hl
    intro F a w G Q hI hR
    have hxv:=KM hR q1
    rw [hx]at hxv
    simp only [Ab,Ac]at hxv
    obtain⟨b,hb1,hv⟩:=hxv
    simp only [Bool.and_eq_true,Bool.or_eq_true,Nat.blt_eq]at hb
    have hm:=Nat.eq_of_beq_eq_true hb.1
    subst hm
    obtain⟨_,hE,_⟩:=hR.inner he q2
    obtain⟨cur,T',_,_,hrow⟩:=hE.row (fun q=>by cases q) hb1
    obtain⟨v,r1,r2⟩:=Oa (P:=P) hrow ht q3.1 hb.2
    have hrun:(execOp a.eval o).run P w= .ok (.value v) w:=by
     simp_all [BY.refl,execOp]
    exact Ap hrun ⟨_,G,hK,hR.put (by grind)⟩
   ·cases h
  ·cases h
 ·cases h
def oK (P:Program) (st:St) (o:Oper) (E n len:Nat) (cs:List C):Option (List Prop×St):=match o.op with
 | .call c=>match c.callee,c.args.toList,c.argTypes.toList with
   | .builtin .len,[x],[t]=>match (AD st true x).2 with
     | .c (.osl (m::k::id))=>match Nat.beq m 1000007&&BV P t,st.lookD id with
       | true,some e=>some ((AD st true x).1++[e.cs[k]? =some (.isl E n len cs)],st.put o.dst (.c (.int .i64 len)))
       | _,_=>none
     | _=>none
   | _,_,_=>none
 | _=>none
theorem gf {E n len:Nat} {cs:List C} {l:List Prop} (h:oK P st o E n len cs=some (l,st')) (hl:AC l) (hK:K st'):Dk P I o st K:=by
 unfold oK at h
 split at h
 ·rename_i c ho
  split at h
  ·rename_i x t h1 h2 h3
   split at h
   ·rename_i m k id hx
    split at h
    ·rename_i e hb he
     simp only [Option.some.injEq,Prod.mk.injEq]at h
     obtain⟨rfl,rfl⟩:=h
     obtain⟨q1,q2,_⟩:=Af.1 hl
     intro F a w G Q hI hR
     have hxv:=KM hR q1
     rw [hx]at hxv
     simp only [Ab,Ac]at hxv
     simp only [Bool.and_eq_true]at hb
     have hm:=Nat.eq_of_beq_eq_true hb.1
     subst hm
     obtain⟨el,hel⟩:=Bi hb.2
     obtain⟨_,hE,_⟩:=hR.inner he q2
     unfold AJ at hE
     obtain⟨_,v2,c2,c3⟩:=hE
     rw [show (⟨A9 k id,some (E,n,len),cs,true⟩:Ak).id =A9 k id from rfl,show A9 k id=1000007::k::id from rfl,hxv.1]at c2
     injection c2 with c2
     have hsl: ∃ p cap,a.eval x= .slice p len cap:=by
      grind
     obtain⟨p,cap,hsl⟩:=hsl
     have ea:c.args= #[x]:=by grind
     have et:c.argTypes= #[t]:=by grind
     have hrun:(execOp a.eval o).run P w= .ok (.value (.int .i64 len)) w:=by
      simp [execOp,ho,resolve,h1,ea,et,invoke,builtin,Builtin.len_,Sem.run_bind,run_underlying hel,goInt,hsl]
     exact Ap hrun ⟨_,G,hK,hR.put (by simp only [Ab,Ac])⟩
    ·cases h
   ·cases h
  ·cases h
 ·cases h
theorem CR {T:TypeId} {ag:Bool} {n b off:Nat} {T':TypeId} {cur:Array Value} {v:Value} (ht:Fd P T=some (ag,n)) (hh:w.heap[b]? =some (.cells cur T' (0,0))) (hl:v.cells.toList.length=n) (hfit:off+v.cells.toList.length≤cur.size) (hone: ∀ u∈v.cells.toList,u.oneCell'=true):
 (Instr.storeAt T (.pointer (some ⟨b,off,none⟩)) v).run P w= .ok () (w.setRow b (cur.toList.take off++v.cells.toList++cur.toList.drop (off+v.cells.toList.length)).toArray):=by
 obtain⟨d,i,hu,hd,hi,hsz⟩:=Br ht
 have hst:=run_storeCells_at P b off T' v.cells.toList 0 cur w hh (by simpa using hfit) hone
 simp only [Nat.add_zero]at hst
 simp_all [Instr.storeAt,Instr.sureAddr,storeVar,sizeOf,typeInfo]
theorem Dr {w':World} {K:Act→World→Prop} {Q:Exit→Act→World→Prop} (hr:(execOp a.eval o).run P w= .ok .skip w') (h:K (a.put o.dst Go.undef) w'):o.wp P a w K Q:=by
 grind [Oper.wp,Oper.upon]
def Vv (len:Nat):Option (TypeId×Nat×Nat)→Option (TypeId×Nat×Nat)
 | some (E,n,_)=>some (E,n,len)
 | none=>none
def oL (P:Program) (st:St) (o:Oper) (E n len ln:Nat) (cs cells:List C):Option (List Prop×St):=match o.op with
 | .store T x y=>match o.dst,(AD st true x).2,(AD st true y).2.cells,Fd P T with
   | none, .c (.ptr (m::k::id) off),some xs,some (_,n')=>match Nat.beq m 1000007&&(Nat.beq xs.length n'&&Aj xs),st.lookD id with
     | true,some e=>some (((AD st true x).1++(AD st true y).1)++[e.cs[k]? =some (.isl E n len cs),off+n'≤cs.length∧e.cs.set k (.isl E n len (cs.take off++xs++cs.drop (off+xs.length)))=cells,Vv ln e.row=e.row],st.setD id (Vv ln e.row) cells)
     | _,_=>none
   | _,_,_,_=>none
 | _=>none
theorem gg {E n len ln:Nat} {cs cells:List C} {l:List Prop} (h:oL P st o E n len ln cs cells=some (l,st')) (hl:AC l) (hK:K st'):Dk P I o st K:=by
 unfold oL at h
 split at h
 ·rename_i T x y ho
  split at h
  ·rename_i m k id off xs ag n' hdst hx hy ht
   split at h
   ·rename_i e hb he
    simp only [Option.some.injEq,Prod.mk.injEq]at h
    obtain⟨rfl,rfl⟩:=h
    obtain⟨q1,q2,q3,q4,_⟩:=Af.1 hl
    rw [q4]at hK
    obtain⟨q1,q1'⟩:=Af.1 q1
    intro F a w G Q hI hR
    have hxv:=KM hR q1
    have hyv:=KM hR q1'
    rw [hx]at hxv
    simp only [Ab,Ac]at hxv
    obtain⟨b,hb1,hv⟩:=hxv
    simp only [Bool.and_eq_true]at hb
    have hm:=Nat.eq_of_beq_eq_true hb.1
    have hn:=Nat.eq_of_beq_eq_true hb.2.1
    subst hm
    have hc:=FL hyv hy
    have hlc:=hc.length
    obtain⟨cur,T',r1,r2,r3⟩:=hR.innerStored he q2 (show G.blk (A9 k id)=some b from hb1) (off:=off) hc (by omega) hb.2.2
    rw [q3.2]at r3
    have hs:=CR (P:=P) ht r1 (by omega) r2 (Ag.one hc)
    generalize w.setRow b _=w1 at hs r3
    have hrun:(execOp a.eval o).run P w= .ok .skip w1:=by simp_all [execOp]
    exact Dr hrun (by rw [hdst];exact⟨_,G,hK,r3⟩)
   ·cases h
  ·cases h
 ·cases h
theorem Xs {x:V} {v:Value} (h:Ab w G x v):Ab w G x.weak v:=by
 cases x<;>grind [V.weak,Ab,G4,LO]
def oM (P:Program) (st:St) (o:Oper) (cells:List C):Option (List Prop×St):=match o.op with
 | .store T x y=>match o.dst,(AD st true x).2,(AD st true y).2.weak.cells,Fd P T with
   | none, .c (.ptr id off),some xs,some (_,n')=>match (Nat.beq xs.length n'&&Aj xs)&&xs.all W9,st.lookD id with
     | true,some e=>some (((AD st true x).1++(AD st true y).1)++[off+n'≤e.cs.length∧e.cs.take off++xs++e.cs.drop (off+xs.length)=cells],st.setD id e.row cells)
     | _,_=>none
   | _,_,_,_=>none
 | _=>none
theorem gn {cells:List C} {l:List Prop} (h:oM P st o cells=some (l,st')) (hl:AC l) (hK:K st'):Dk P I o st K:=by
 unfold oM at h
 split at h
 ·rename_i T x y ho
  split at h
  ·rename_i id off xs ag n' hdst hx hy ht
   split at h
   ·rename_i e hb he
    simp only [Option.some.injEq,Prod.mk.injEq]at h
    obtain⟨rfl,rfl⟩:=h
    obtain⟨q1,q2,_⟩:=Af.1 hl
    obtain⟨q1,q1'⟩:=Af.1 q1
    intro F a w G Q hI hR
    have hxv:=KM hR q1
    have hyv:=Xs (KM hR q1')
    rw [hx]at hxv
    simp only [Ab,Ac]at hxv
    obtain⟨b,hb1,hv⟩:=hxv
    simp only [Bool.and_eq_true]at hb
    have hn:=Nat.eq_of_beq_eq_true hb.1.1
    have hc:=FL hyv hy
    have hlc:=hc.length
    obtain⟨cur,T',r1,r2,r3⟩:=hR.deepStored he hb1 (off:=off) hc (by omega) hb.1.2 hb.2
    rw [q2.2]at r3
    have hs:=CR (P:=P) ht r1 (by omega) r2 (Ag.one hc)
    generalize w.setRow b _=w1 at hs r3
    have hrun:(execOp a.eval o).run P w= .ok .skip w1:=by simp_all [execOp]
    exact Dr hrun (by rw [hdst];exact⟨_,G,hK,r3⟩)
   ·cases h
  ·cases h
 ·cases h
theorem ai {id:Ae} {row:Option (TypeId×Nat×Nat)} {c1 c2:List C} {p:Ae→Bool} (x:Ak):setE id row c2 ((setE id row c1 x).killP p)=setE id row c2 (x.killP p):=by
 by_cases h:x.id=id
 all_goals grind [CH,Ak.killP_id,Ak.killP_pu,CG]
def oN (P:Program) (st:St) (o:Oper) (cells:List C):Option (List Prop×St):=match o.op with
 | .store T x y=>match o.dst,(AD st true x).2,(AD st true y).2,Fd P T with
   | none, .c (.ptr id k), .c (.osl r),some (ag,n')=>match !ag&&Nat.beq n' 1,st.lookD id,st.look r with
     | true,some e,some er=>match er.row,er.pu with
       | some (E,n,len),true=>some (((AD st true x).1++(AD st true y).1)++[k<e.cs.length∧e.cs.set k (.isl E n len er.cs)=cells],st.killP (pD r id) (((st.so.filter (fun d=>d.id != r)).map (Ak.killP (pD r id))).map (setE id e.row cells)))
       | _,_=>none
     | _,_,_=>none
   | _,_,_,_=>none
 | _=>none
theorem gp {cells:List C} {l:List Prop} (h:oN P st o cells=some (l,st')) (hl:AC l) (hK:K st'):Dk P I o st K:=by
 unfold oN at h
 split at h
 ·rename_i T x y ho
  split at h
  ·rename_i id k r ag n' hdst hx hy ht
   split at h
   ·rename_i e er hb he her
    split at h
    ·rename_i E n len hrow hpu
     simp only [Option.some.injEq,Prod.mk.injEq]at h
     obtain⟨rfl,rfl⟩:=h
     obtain⟨q1,q2,_⟩:=Af.1 hl
     obtain⟨q1,q1'⟩:=Af.1 q1
     intro F a w G Q hI hR
     have hxv:=KM hR q1
     have hyv:=KM hR q1'
     rw [hx]at hxv
     rw [hy]at hyv
     simp only [Ab,Ac]at hxv hyv
     obtain⟨b,hb1,hv⟩:=hxv
     simp only [Bool.and_eq_true,Bool.not_eq_true']at hb
     have hn:=Nat.eq_of_beq_eq_true hb.2
     have hcl:(a.eval y).cells.toList =[a.eval y]:=by
      have:=hyv.2
      cases hq:a.eval y<;>rw [hq]at this<;>first | rfl | cases this
     have hc:Ag w G [C.any] (a.eval y).cells.toList :=by simp_all [Ag,Ac]
     obtain⟨cur,T',r1,r2,r3⟩:=hR.deepStored he hb1 (off:=k) hc (by simp;omega) rfl rfl
     have hs:=CR (P:=P) ht r1 (by rw [hcl];simp;omega) r2 (Ag.one hc)
     have hcell:(w.setRow b (cur.toList.take k++(a.eval y).cells.toList ++cur.toList.drop (k+(a.eval y).cells.toList.length)).toArray).cell? ⟨b,k,none⟩=some (a.eval y):=by
      have:=setRow_heap w b cur (cur.toList.take k++(a.eval y).cells.toList ++cur.toList.drop (k+(a.eval y).cells.toList.length)).toArray T' (0,0) r1
      grind [World.cell?,List.length_take]
     generalize w.setRow b _=w1 at hs r3 hcell
     have hrun:(execOp a.eval o).run P w= .ok .skip w1:=by simp_all [execOp]
     obtain⟨hm,hid,hd⟩:=IS he
     obtain⟨hmr,hidr⟩:=AK her
     have hndr:=DR her
     have hrid:r ≠ id:=(by grind)
     have hD:(st.setD id e.row (e.cs.take k++[C.any]++e.cs.drop (k+[C.any].length))).lookD id=some ⟨id,e.row,e.cs.take k++[C.any]++e.cs.drop (k+[C.any].length),e.pu⟩:=by
      refine r3.lookD_of ?_ rfl hd
      grind [St.setD,CH]
     have hL:(st.setD id e.row (e.cs.take k++[C.any]++e.cs.drop (k+[C.any].length))).look r=some er:=by
      refine r3.look_of ?_ hidr hndr (by grind)
      grind [St.setD,CG]
     have hk':k<(⟨id,e.row,e.cs.take k++[C.any]++e.cs.drop (k+[C.any].length),e.pu⟩:Ak).cs.length :=by simp;omega
     obtain⟨G',g1,_⟩:=r3.absorb hD hL hrow hpu hb1 hcell hyv.1 hk'
     suffices hfin:R F (st.killP (pD r id) (((st.so.filter (fun d=>d.id != r)).map (Ak.killP (pD r id))).map (setE id e.row cells))) a w1 G' from Dr hrun (by rw [hdst];exact⟨_,G',hK,hfin⟩)
     have e1:(e.cs.take k++[C.any]++e.cs.drop (k+[C.any].length)).set k (.isl E n len er.cs)=cells:=by
      rw [←q2.2]
      apply List.ext_getElem?
      intro j
      simp only [List.getElem?_set]
      by_cases hj:k=j
      ·grind
      ·rw [if_neg hj,if_neg hj,List.append_assoc]
       have htl:(e.cs.take k).length =k:=by grind
       by_cases hjk:j<k
       ·grind
       ·rw [List.getElem?_append_right (by omega),htl,List.getElem?_append_right (by simp;omega),List.getElem?_drop]
        grind
     have e2:(((st.setD id e.row (e.cs.take k++[C.any]++e.cs.drop (k+[C.any].length))).so.filter (fun d=>d.id != r)).map (Ak.killP (pD r id))).map (setE id e.row cells)=((st.so.filter (fun d=>d.id != r)).map (Ak.killP (pD r id))).map (setE id e.row cells):=by
      simp only [St.setD]
      rw [List.filter_map]
      simp only [List.map_map]
      have:(fun d:Ak=>d.id != r) ∘ setE id e.row (e.cs.take k++[C.any]++e.cs.drop (k+[C.any].length))=fun d=>d.id != r:=by
       funext d;simp [TD]
      grind [List.map_congr_left,ai]
     rw [e1]at g1
     have e3: ∀ so,(st.setD id e.row (e.cs.take k++[C.any]++e.cs.drop (k+[C.any].length))).killP (pD r id) so=st.killP (pD r id) so:=fun so=>rfl
     grind
    ·cases h
   ·cases h
  ·cases h
 ·cases h
def oO (P:Program) (st:St) (o:Oper) (E n len:Nat) (cs:List C):Option (List Prop×St):=match o.op with
 | .load T x=>match o.dst,(AD st true x).2,Fd P T with
   | some d, .c (.ptr id k),some (ag,n')=>match (!ag&&Nat.beq n' 1)&&(!BX (d::st.pre)&& !Db (d::st.pre)),st.lookD id with
     | true,some e=>some ((AD st true x).1++[e.cs[k]? =some (.isl E n len cs)],
      (st.killP (pD (d::st.pre) id) (⟨d::st.pre,some (E,n,len),cs,true⟩::((st.so.filter (fun x=>x.id != d::st.pre)).map (Ak.killP (pD (d::st.pre) id))).map (setE id e.row (e.cs.set k .any)))).put (some d) (.c (.osl (d::st.pre))))
     | _,_=>none
   | _,_,_=>none
 | _=>none
theorem gq {E n len:Nat} {cs:List C} {l:List Prop} (h:oO P st o E n len cs=some (l,st')) (hl:AC l) (hK:K st'):Dk P I o st K:=by
 unfold oO at h
 split at h
 ·rename_i T x ho
  split at h
  ·rename_i d id k ag n' hdst hx ht
   split at h
   ·rename_i e hb he
    simp only [Option.some.injEq,Prod.mk.injEq]at h
    obtain⟨rfl,rfl⟩:=h
    obtain⟨q1,q2,_⟩:=Af.1 hl
    intro F a w G Q hI hR
    have hxv:=KM hR q1
    rw [hx]at hxv
    simp only [Ab,Ac]at hxv
    obtain⟨b,hb1,hv⟩:=hxv
    simp only [Bool.and_eq_true,Bool.not_eq_true']at hb
    obtain⟨G',g1,b2,v,g2,g3,g4,g5⟩:=hR.extract he q2 (r:=d::st.pre) hb.2.1 hb.2.2
    rw [hb1]at g2;injection g2 with g2;subst g2
    obtain⟨dd,i,hu,hd,_⟩:=Br ht
    have hrun:(execOp a.eval o).run P w= .ok (.value v) w:=by
     simp_all [execOp,Cd]
    refine Ap hrun ⟨_,G',hK,?_⟩
    grind [R.put,Ab,Ac]
   ·cases h
  ·cases h
 ·cases h
def oP (P:Program) (st:St) (o:Oper) (ln:Nat) (cells:List C):Option (List Prop×St):=match o.op with
 | .call c=>match o.dst,c.callee,c.args.toList,c.argTypes.toList with
   | some d, .builtin .append,[u,x],[t,t']=>match (AD st true u).2,(AD st true x).2,BN P t with
     | .c (.osl id), .c (.osl q),some (E,n,by')=>match st.lookD id,st.look q with
       | some e,some eq=>match e.row,eq.row,eq.cs with
         | some (E0,n0,len),some (E1,n1,len1),[.osl r]=>match (t==t'&&(E0==E&&n0==n))&&(Nat.beq n 1&&(Nat.beq n1 1&&Nat.beq len1 1)),st.look r with
           | true,some er=>match er.row,er.pu with
             | some (E2,n2,len2),true=>some (((AD st true u).1++(AD st true x).1)++[e.cs++[.isl E2 n2 len2 er.cs]=cells,(len+1)*by'≤140737488355328∧len+1≤maxLen,len+1=ln],
              ((st.killP (· ==id) []).killP (pD r id) (((((st.so.map (Ak.killP (· ==id))).map (setE id (some (E,n,ln)) (e.cs++[.any]))).filter (fun d=>d.id != r)).map (Ak.killP (pD r id))).map (setE id (some (E,n,ln)) cells))).put (some d) (.c (.osl id)))
             | _,_=>none
           | _,_=>none
         | _,_,_=>none
       | _,_=>none
     | _,_,_=>none
   | _,_,_,_=>none
 | _=>none
theorem gu {ln:Nat} {cells:List C} {l:List Prop} (h:oP P st o ln cells=some (l,st')) (hl:AC l) (hK:K st'):Dk P I o st K:=by
 unfold oP at h
 split at h
 case h_2=>cases h
 rename_i c ho
 split at h
 case h_2=>cases h
 rename_i d u x t t' hdst hcal hargs htys
 split at h
 case h_2=>cases h
 rename_i id q E n by' hu hx hsel
 split at h
 case h_2=>cases h
 rename_i e eq he heq
 split at h
 case h_2=>cases h
 rename_i E0 n0 len E1 n1 len1 r hrow0 hrow1 hcs1
 split at h
 case h_2=>cases h
 rename_i er hb her
 split at h
 case h_2=>cases h
 rename_i E2 n2 len2 hrow hpu
 simp only [Option.some.injEq,Prod.mk.injEq]at h
 obtain⟨rfl,rfl⟩:=h
 obtain⟨q1,q2,q3,q4,_⟩:=Af.1 hl
 subst q4
 obtain⟨q1,q1'⟩:=Af.1 q1
 simp only [Bool.and_eq_true,beq_iff_eq]at hb
 obtain⟨⟨rfl,rfl,rfl⟩,hb1,hb2,hb3⟩:=hb
 have hn:=Nat.eq_of_beq_eq_true hb1
 have hn1:=Nat.eq_of_beq_eq_true hb2
 have hl1:=Nat.eq_of_beq_eq_true hb3
 subst hn hn1 hl1
 intro F a w G Q hI hR
 have huv:=KM hR q1
 have hxv:=KM hR q1'
 rw [hu]at huv
 rw [hx]at hxv
 simp only [Ab,Ac]at huv hxv
 obtain⟨hm,hid,hd⟩:=IS he
 obtain⟨hmq,hidq⟩:=AK heq
 obtain⟨hmr,hidr⟩:=AK her
 have hndr:=DR her
 have hrid:r ≠ id:=(by grind)
 obtain⟨i,z,hty,hi,hz,hsz,hby,hzs⟩:=A8 hsel
 have hEq:=hR.store eq hmq
 unfold AJ at hEq
 rw [hrow1,hcs1]at hEq
 obtain⟨_,vq,c2,c3⟩:=hEq
 rw [hidq,hxv.1]at c2
 injection c2 with c2
 rcases c3 with ⟨p,_,c4,_⟩ | ⟨bq,capq,curq,c3,_,_,hcapq,_,_,c7⟩
 ·cases c4
 simp only [Ai]at c7
 obtain⟨⟨vr,hcr,hvr⟩,_⟩:=c7
 simp only [Ac]at hvr
 obtain⟨v,xs,k1,k2,k3,k4⟩:=Cq hrow0 (hR.store e hm)
 rw [hid,huv.1]at k1
 injection k1 with k1
 have hus:Ag w G [C.any] [vr]:=by simp_all [Ag,Ac]
 have hnews: ∀ j u',[vr][j]? =some u'→w.cell? ((⟨bq,0,none⟩:Addr).add j)=some u':=by
  intro j u' hj
  cases j<;>grind [Addr.add_mid]
 have main: ∀ v0 v' w',(Builtin.append_ #[t,t] o.type #[a.eval u,a.eval x]).run P w= .ok v' w'→v0.ownBlock=G.blk id→(∀ b j u',G.blk id=some b→xs[j]? =some u'→w.cell? ⟨b,j,none⟩=some u')→w.ownsRow 0 E0 1 v0 len xs→w'.ownsRow 0 E0 1 v' (len+1) (xs++[vr])→w.grownBy w' v0.ownBlock→(v'.ownBlock=v0.ownBlock∨ ∀ b,v'.ownBlock=some b→w.heap.size≤b)→o.wp P a w (U2 F K) Q:=by
  intro v0 v' w' hrun hob hxc hold hnew hg hfr
  obtain⟨g1,g2⟩:=hR.deepAppended he hrow0 hob k3 hus hxc hold hnew hg hfr rfl rfl
  have hD:=g1.lookD_of (e:=⟨id,some (E0,1,len+1),e.cs++[C.any],e.pu⟩) (id:=id) (by
   simp only [St.killP,List.map_map,List.mem_map,Function.comp]
   grind [CH,Ak.killP_id,Ak.killP_pu]) rfl hd
  have her':er.killP (· ==id)=er:=by
   obtain⟨i1,r1,cs1,pu1⟩:=er
   simp only at hpu;subst hpu;rfl
  have hL:=g1.look_of (e:=er) (id:=r) (by
   simp only [St.killP,List.map_map,List.mem_map,Function.comp]
   grind [CG]) hidr hndr (by grind)
  have hlx:=k3.length
  obtain⟨g,cap,cur,n1,_,n2',n3,n4,n5,n6⟩: ∃ g cap cur,v'= .slice (some ⟨g,0,none⟩) (len+1) cap∧0≤g∧w'.heap[g]? =some (.cells cur E0 (0,0))∧len+1≤cap∧cap≤maxLen∧cur.size=cap*1∧cur.toList.take ((len+1)*1)=xs++[vr]:=by
   rcases hnew.2 with ⟨_,h0⟩ | h1
   all_goals grind
  have hcell:w'.cell? ⟨g,e.cs.length,none⟩=some vr:=by
   have hrg:=A0 n2' (us:=xs++[vr]) (rest:=cur.toList.drop ((len+1)*1)) (by rw [←n6,List.take_append_drop])
   have:=hrg e.cs.length vr (by grind)
   grind
  have hblk:(Bo F G id v'.ownBlock (some v')).blk id=some g:=by simp [Bo,n1,Value.ownBlock]
  have howr:(Bo F G id v'.ownBlock (some v')).own r=some vr:=by grind [Bo]
  have hk':e.cs.length<(⟨id,some (E0,1,len+1),e.cs++[C.any],e.pu⟩:Ak).cs.length :=by simp
  obtain⟨G',g3,g4⟩:=g1.absorb hD hL hrow hpu hblk hcell howr hk'
  have e1:(e.cs++[C.any]).set e.cs.length (.isl E2 n2 len2 er.cs)=cells:=by
   grind
  rw [show (⟨id,some (E0,1,len+1),e.cs++[C.any],e.pu⟩:Ak).row =some (E0,1,len+1)from rfl,show (⟨id,some (E0,1,len+1),e.cs++[C.any],e.pu⟩:Ak).cs =e.cs++[C.any]from rfl,e1]at g3
  have ea:c.args= #[u,x]:=by grind
  have et:c.argTypes= #[t,t]:=by grind
  have hrun2:(execOp a.eval o).run P w= .ok (.value v') w':=by
   simp_all [execOp,resolve,invoke,builtin]
  refine Ap hrun2 ⟨_,G',hK,?_⟩
  rw [hdst]
  exact R.put (d:=some d) g3 (show Ab w' G' (V.c (C.osl id)) v' by simp only [Ab,Ac];exact⟨by rw [g4];simp [Bo],g2⟩)
 have hbb:(len+1)*by'≤140737488355328:=q3.1
 rcases k4 with ⟨k4,k5⟩ | ⟨p,hvp,h0,hxs,k5⟩
 ·rw [hid]at k5
  have hxc: ∀ b j u',G.blk id=some b→xs[j]? =some u'→w.cell? ⟨b,j,none⟩=some u':=by
   intro b j u' hb' hj
   have:=k4.cells (g:=b) (by grind) j u' hj
   grind [Addr.add_mid]
  obtain⟨v',w',hrun,hown,hg,hfr⟩:=B4 (P:=P) (w:=w) t o.type E0 i z 1 by' hty hi hz hsz hby hzs (by omega) v len xs k4 ⟨bq,0,none⟩ 1 capq [vr] (by simp) hnews (Ag.one hus) q3.2 hbb
  grind
 ·rw [hid]at k5
  subst h0 hxs
  obtain⟨v',w',hrun,hown,hg,hfr⟩:=Dj (P:=P) (w:=w) t o.type E0 i z 1 by' hty hi hz hsz hby hzs (by omega) p ⟨bq,0,none⟩ 1 capq [vr] (by simp) hnews (by omega) (by omega) (by simpa using hbb)
  exact main (.slice none 0 0) v' w' (by grind) k5.symm (by grind) ⟨by simp, .inl ⟨rfl,rfl⟩⟩ (by grind) hg (.inr hfr)
end
end Go.PL
namespace Go.PL
open Go Go.RowKit
inductive Stp where
 | a
 | v (x:V)
 | c (r:V)
 | e (len:Nat) (cs:List C)
 | D (x:DS)
def Xt (s:Stp) (len:Nat) (cs:List C) (k:Nat→List C→List Prop→Option (List Prop×St)):Option (List Prop×St):=
 match s with
 | .e len' cs'=>k len' cs' [len=len'∧cs=cs']
 | _=>k len cs []
theorem Jy {s:Stp} {len:Nat} {cs:List C} {k:Nat→List C→List Prop→Option (List Prop×St)} {r:List Prop×St} (h:Xt s len cs k=some r):
 ∃ len' cs' l,k len' cs' l=some r∧(AC l→len=len'∧cs=cs'):=by
 cases s<;>simp only [Xt]at h<;>first
  | exact⟨_,_,_,h,fun q=>q.1⟩
  | grind
def Jz (id:Ae) (len:Nat):List Ak→Prop
 | []=>True
 | e::es=>match e.id==id with
   | true=>Vv len e.row=e.row∧Jz id len es
   | false=>Jz id len es
def St.setR (st:St) (id:Ae) (cs:List C) (q:Bool) (len:Nat):St:={st with so:=st.so.map fun e=>match e.id==id with
 | true=>⟨e.id,Vv len e.row,cs,e.pu&&q⟩
 | false=>e}
theorem YR {st:St} {id:Ae} {cs:List C} {q:Bool} {len:Nat} (h:Jz id len st.so):st.setR id cs q len=st.setCs id cs q:=by
 have: ∀ l:List Ak,Jz id len l→(l.map fun e=>match e.id==id with
  | true=>(⟨e.id,Vv len e.row,cs,e.pu&&q⟩:Ak)
  | false=>e)=l.map fun e=>if(e.id==id)=true then(⟨e.id,e.row,cs,e.pu&&q⟩:Ak)else e:=by
  intro l
  induction l<;>grind [Jz]
 unfold St.setR St.setCs
 rw [this st.so h]
def Xu (P:Program) (st:St) (s:Stp) (d:Option Nat) (T:TypeId) (l:List Prop) (x y:V):Option (List Prop×St):=
 match x,y.cells,Fd P T with
 | .c (.ptr id off),some cs,some (_,n)=>match st.look id with
   | some e=>match s with
     | .e len' cs'=>NS (cs.length==n) (l++[off+n≤e.cs.length∧e.cs.take off++cs++e.cs.drop (off+cs.length)=cs',Jz id len' st.so],(st.setR id cs' (Aj cs) len').put d .undef)
     | _=>NS (cs.length==n&&Nat.ble (off+n) e.cs.length) (l,(st.setCs id (e.cs.take off++cs++e.cs.drop (off+cs.length)) (Aj cs)).put d .undef)
   | none=>none
 | _,_,_=>none
theorem KN {P:Program} {st st':St} {s:Stp} {d:Option Nat} {T:TypeId} {l l':List Prop} {x y:V} (h:Xu P st s d T l x y=some (l',st')) (hl:AC l'):
 AC l∧(Em P st T x y).1∧(Em P st T x y).2.put d .undef =st':=by
 unfold Xu at h
 unfold Em
 split at h
 ·rename_i id off cs ag n h1 h2
  split at h
  ·rename_i e he
   split at h
   ·rename_i len cs'
    obtain⟨hb,hr⟩:=A7 h
    simp only [Prod.mk.injEq]at hr
    obtain⟨rfl,rfl⟩:=hr
    obtain⟨q1,q2,q3,_⟩:=Af.1 hl
    grind [YR]
   ·obtain⟨hb,hr⟩:=A7 h
    simp_all
  ·cases h
 ·cases h
def kg (st:St) (n:Nat):V→Option (List Prop×Nat×List C×Bool)
 | .c (.sl m cs)=>some ([cs.length=m*n],m,cs,true)
 | .c (.osl id)=>match st.look id with
   | some e=>match e.row with
     | some (_,n',m)=>NS (n'==n) ([],m,e.cs,e.pu)
     | none=>none
   | none=>none
 | _=>none
theorem Xv {st:St} {n:Nat} {x:V} {l:List Prop} {r:Nat×List C×Bool} (h:kg st n x=some (l,r)) (hl:AC l):Kz st n x=some r:=by
 unfold kg at h
 unfold Kz
 split at h
 ·simp only [Option.some.injEq,Prod.mk.injEq]at h
  obtain⟨rfl,rfl⟩:=h
  exact if_pos hl.1
 ·split at h
  ·rename_i h1
   split at h
   ·rename_i h2
    obtain⟨hb,hr⟩:=A7 h
    grind
   ·cases h
  ·cases h
 ·cases h
def TF (P:Program) (st:St) (s:Stp) (d:Nat) (t:TypeId) (l:List Prop) (u x:V):Option (List Prop×St):=
 match u,BN P t with
 | .c (.osl id),some (E,n,by')=>match st.look id,kg st n x with
   | some e,some (l2,m,cs,q)=>match e.row with
     | some (E',n',len)=>match E'==E&&n'==n&&Nat.blt 0 n with
       | true=>Xt s (len+m) (e.cs++cs) fun len' cs' l3=>
         some (l++(l2++(l3++[(len+m)*by'≤140737488355328∧len+m≤maxLen])),(st.new ⟨id,some (E,n,len'),cs',e.pu&&q⟩).put (some d) (.c (.osl id)))
       | false=>none
     | none=>none
   | _,_=>none
 | _,_=>none
theorem QL {P:Program} {st st':St} {s:Stp} {d:Nat} {t:TypeId} {l l':List Prop} {u x:V} (h:TF P st s d t l u x=some (l',st')) (hl:AC l'):
 AC l∧(DT P st d t u x).1∧(DT P st d t u x).2=st':=by
 unfold TF at h
 unfold DT
 split at h
 ·rename_i id E n by' h1
  split at h
  ·rename_i e l2 m cs q h2 h3
   split at h
   ·rename_i E' n' len h4
    split at h
    ·rename_i hb
     obtain⟨len',cs',l3,hk,ht⟩:=Jy h
     simp only [Option.some.injEq,Prod.mk.injEq]at hk
     obtain⟨rfl,rfl⟩:=hk
     obtain⟨q1,q2⟩:=Af.1 hl
     obtain⟨q2,q3⟩:=Af.1 q2
     obtain⟨q3,q4,_⟩:=Af.1 q3
     obtain⟨rfl,rfl⟩:=ht q3
     simp only [Bool.and_eq_true,beq_iff_eq,Nat.blt_eq]at hb
     simp only [h1,h2,Xv h3 q2,h4]
     grind
    ·cases h
   ·cases h
  ·cases h
 ·cases h
def cA (P:Program) (st:St) (s:Stp) (d:Nat) (t:TypeId) (l:List Prop) (x y:V):Option (List Prop×St):=
 match x,y,s with
 | .c (.bsl id off len), .c (.bsl id2 off2 len2), .e len' cs'=>match BZ P t with
   | some (_,1)=>match st.look id,st.look id2 with
     | some e,some e2=>NS (Nat.ble (off+Nat.min len2 len) e.cs.length&&Nat.ble (off2+Nat.min len2 len) e2.cs.length) (l++[e.cs.take off++(e2.cs.drop off2).take (Nat.min len2 len)++e.cs.drop (off+((e2.cs.drop off2).take (Nat.min len2 len)).length)=cs',Jz id len' st.so],
      (st.setR id cs' (Aj ((e2.cs.drop off2).take (Nat.min len2 len))) len').put (some d) (.c (.int .i64 (Nat.min len2 len:Nat))))
     | _,_=>none
   | _=>none
 | _,_,_=>none
theorem Vw {P:Program} {st st':St} {s:Stp} {d:Nat} {t:TypeId} {l l':List Prop} {x y:V} (h:cA P st s d t l x y=some (l',st')) (hl:AC l'):
 AC l∧(MJ P st d t x y).1∧(MJ P st d t x y).2=st':=by
 unfold cA at h
 unfold MJ
 split at h
 ·rename_i id off len id2 off2 len2 len' cs'
  split at h
  ·rename_i E h0
   split at h
   ·rename_i e e2 h1 h2
    obtain⟨hb,hr⟩:=A7 h
    simp only [Prod.mk.injEq]at hr
    obtain⟨rfl,rfl⟩:=hr
    obtain⟨q1,q2,q3,_⟩:=Af.1 hl
    simp_all [YR]
   ·cases h
  ·cases h
 ·cases h
def YS (P:Program) (st:St) (s:Stp) (d:Nat) (t:TypeId) (p:List Prop) (l c:V):Option (List Prop×St):=
 match l,c,BN P t with
 | .c (.int _ l), .c (.int _ c),some (E,n,by')=>match HU P E with
   | some z=>match z.length==n&&Nat.blt 0 n with
     | true=>Xt s l.toNat (Bj z l.toNat) fun len' cs' l3=>some (p++(l3++[0≤l∧l≤c∧c*by'≤140737488355328∧c≤maxLen]),(st.new ⟨d::st.pre,some (E,n,len'),cs',true⟩).put (some d) (.c (.osl (d::st.pre))))
     | false=>none
   | none=>none
 | _,_,_=>none
theorem Vx {P:Program} {st st':St} {s:Stp} {d:Nat} {t:TypeId} {p l':List Prop} {l c:V} (h:YS P st s d t p l c=some (l',st')) (hl:AC l'):
 AC p∧(Gu P st d t l c).1∧(Gu P st d t l c).2=st':=by
 unfold YS at h
 unfold Gu
 split at h
 ·rename_i h1
  split at h
  ·rename_i h2
   split at h
   ·rename_i hb
    obtain⟨len',cs',l3,hk,ht⟩:=Jy h
    simp only [Option.some.injEq,Prod.mk.injEq]at hk
    obtain⟨rfl,rfl⟩:=hk
    obtain⟨q1,q2⟩:=Af.1 hl
    obtain⟨q2,q3,_⟩:=Af.1 q2
    obtain⟨rfl,rfl⟩:=ht q2
    simp_all
   ·cases h
  ·cases h
 ·cases h
def FT (st:St) (g:Bool) (ps:List (Nat×Operand)):List Prop×List (Nat×V):=
 match ps with
 | []=>([],[])
 | (i,x)::r=>((AD st g x).1++(FT st g r).1,(i,(AD st g x).2)::(FT st g r).2)
theorem LU {st:St} {g:Bool}: ∀ {ps:List (Nat×Operand)},AC (FT st g ps).1→(st.parts g ps).1∧(st.parts g ps).2=(FT st g ps).2
 | [],_=>⟨trivial,rfl⟩
 | (i,x)::r,hl=>by
   obtain⟨h1,h2⟩:=Af.1 hl
   have a:=IR (st:=st) (g:=g) (x:=x) h1
   have b:=LU (st:=st) (g:=g) (ps:=r) h2
   simp only [St.parts,FT]
   exact⟨⟨a.1,b.1⟩,by rw [a.2,b.2]⟩
def gw (P:Program) (st:St) (s:Stp) (d:Nat) (t:TypeId) (len:Nat) (ps:List (Nat×Operand)):Option (List Prop×St):=
 match BN P t with
 | some (E,n,_)=>match HU P E with
   | some z=>match Ff (fun i=>some (i*n,n)) (Bj z len) ((FT st true ps).2.map Ky)with
     | some cs=>match z.length==n&&Nat.blt 0 n&&Nat.ble (len*n) (2 ^ 24)&&Aj cs with
       | true=>Xt s len cs fun len' cs' l3=>some ((FT st true ps).1++l3,(st.new ⟨d::st.pre,some (E,n,len'),cs',true⟩).put (some d) (.c (.osl (d::st.pre))))
       | false=>none
     | none=>none
   | none=>none
 | none=>none
theorem Xw {P:Program} {st st':St} {s:Stp} {d:Nat} {t:TypeId} {len:Nat} {ps:List (Nat×Operand)} {l':List Prop} (h:gw P st s d t len ps=some (l',st')) (hl:AC l'):
 (AI P st d t len ps).1∧(AI P st d t len ps).2=st':=by
 unfold gw at h
 unfold AI
 split at h
 ·rename_i h1
  split at h
  ·rename_i h2
   split at h
   ·rename_i h3
    split at h
    ·rename_i hb
     obtain⟨len',cs',l3,hk,ht⟩:=Jy h
     simp only [Option.some.injEq,Prod.mk.injEq]at hk
     obtain⟨rfl,rfl⟩:=hk
     obtain⟨q1,q2⟩:=Af.1 hl
     obtain⟨rfl,rfl⟩:=ht q2
     simp_all [LU]
    ·cases h
   ·cases h
  ·cases h
 ·cases h
def cB (P:Program) (st:St) (s:Stp) (o:Oper):Option (List Prop×St):=
 match o.op with
 | .store T x y=>Xu P st s o.dst T ((AD st true x).1++(AD st true y).1) (AD st true x).2 (NF st (AD st true x).2 (Xd y (AD st true y).2))
 | op=>match o.dst with
   | none=>none
   | some d=>match op with
     | .alloc T=>match MI P T with
       | some cs=>some ([],(st.new ⟨d::st.pre,none,cs,false⟩).put (some d) (.c (.ptr (d::st.pre) 0)))
       | none=>none
     | .box _ x=>match (AD st true x).2.cells with
       | some cs=>some ((AD st true x).1,(st.new ⟨d::st.pre,none,cs,false⟩).put (some d) (.c (.ptr (d::st.pre) 0)))
       | none=>none
     | .assign (.const (.slice none 0 0))=>match BZ P o.type with
       | some (E,n)=>some ([],(st.new ⟨d::st.pre,some (E,n,0),[],true⟩).put (some d) (.c (.osl (d::st.pre))))
       | none=>none
     | .buildSlice t len ps=>gw P st s d t len ps.toList
     | .makeSlice t l c=>YS P st s d t ((AD st true l).1++(AD st true c).1) (AD st true l).2 (AD st true c).2
     | .call c=>match c.callee,c.args.toList,c.argTypes.toList with
       | .builtin .append,[u,x],[t,t']=>match t==t' with
         | true=>TF P st s d t ((AD st true u).1++(AD st true x).1) (AD st true u).2 (AD st true x).2
         | false=>none
       | .builtin .copy,[u,x],[t,_]=>cA P st s d t ((AD st true u).1++(AD st true x).1) (AD st true u).2 (AD st true x).2
       | _,_,_=>none
     | _=>none
theorem LV {P:Program} {st st':St} {s:Stp} {o:Oper} {l:List Prop} (h:cB P st s o=some (l,st')) (hl:AC l):(PL.ef P st o).1∧(PL.ef P st o).2=st':=by
 have A: ∀ x,AC (AD st true x).1→(st.arg true x).1∧(st.arg true x).2=(AD st true x).2:=fun x hx=>IR hx
 obtain⟨dst,op,ty,pos,aft,gd⟩:=o
 cases op<;>cases dst<;>simp only [cB]at h<;>simp only [PL.ef]<;>try (cases h;done)
 case store.none T x y=>
  have:=KN h hl
  grind [Af]
 case store.some T x y d=>
  have:=KN h hl
  grind [Af]
 case alloc.some T d=>
  grind
 case box.some T x d=>
  grind
 case assign.some x d=>
  grind
 case buildSlice.some t len ps d=>exact Xw h hl
 case makeSlice.some t a b d=>
  have:=Vx h hl
  grind [Af]
 case call.some c d=>
  split at h
  ·rename_i u x t t' h1 h2 h3
   split at h
   ·rename_i hb
    obtain rfl:t=t':=by grind
    have:=QL h hl
    simp_all [Af]
   ·cases h
  ·rename_i u x t t' h1 h2 h3
   have:=Vw h hl
   simp_all [Af]
  ·cases h
def Stp.u:Stp→Option V
 | .v x=>some x
 | _=>none
def oQ (P:Program) (st:St) (o:Oper) (t:Option (Nat×List C)):Option (List Prop×St):=match A2 o.op,cB P st (match t with
    | none=> .a
    | some (l,cs)=> .e l cs) o,o.dst with
 | .ef,some (l,st1),some d=>match st1.get d with
   | .c (.osl r)=>match st1.look r with
     | some er=>match er.row,er.pu with
       | some (E,n,len),true=>some (l++[er.cs.all W9=true],(st1.killP (fun i=>i==r||(i==1000003::r||CI (1000003::r) i)) (⟨1000003::r,some (E,n,len),er.cs,true⟩::((st1.so.filter (fun d=>d.id != r&&d.id != 1000003::r)).map (Ak.killP (fun i=>i==r||(i==1000003::r||CI (1000003::r) i)))))).put (some d) (.c (.osl (1000003::r))))
       | _,_=>none
     | none=>none
   | _=>none
 | _,_,_=>none
theorem gy {P:Program} {I:World→Prop} {o:Oper} {st st':St} {K:St→Prop} {t:Option (Nat×List C)} {l:List Prop} (h:oQ P st o t=some (l,st')) (hl:AC l) (hK:K st'):Dk P I o st K:=by
 unfold oQ at h
 split at h
 case h_2=>cases h
 rename_i l1 st1 d hk hef hdst
 split at h
 case h_2=>cases h
 rename_i r hget
 split at h
 case h_2=>cases h
 rename_i er her
 split at h
 case h_2=>cases h
 rename_i E n len hrow hpu
 simp only [Option.some.injEq,Prod.mk.injEq]at h
 obtain⟨rfl,rfl⟩:=h
 obtain⟨q1,q2,_⟩:=Af.1 hl
 intro F a w G Q hI hR
 obtain⟨h1,h2⟩:=LV hef q1
 have hs:Z0 P F.I o st (fun s'=>s'=st1):=by
  grind [Z0]
 refine Oper.wp_mono (fun a' w' ⟨s',G',hs',hR'⟩=>?_) (IQ hR hs)
 subst hs'
 obtain⟨G2,g1,g2⟩:=hR'.deepen her hrow hpu q2 (id:=1000003::r) rfl rfl
 have hv:=hR'.slots d
 rw [show s'.tm.getD d .undef = .c (.osl r)from hget]at hv
 simp only [Ab,Ac]at hv
 exact⟨_,G2,hK,g1.reslot (by grind [Ab,Ac])⟩
def oR (P:Program) (st:St) (o:Oper):Option (List Prop×St):=match o.op,o.dst with
 | .buildSlice t len ps,some d=>match BN P t with
   | some (E,n,_)=>match HU P E with
     | some z=>match Ff (fun i=>some (i*n,n)) (Bj z len) ((FT st true ps.toList).2.map Ky)with
       | some cs=>match z.length==n&&Nat.blt 0 n&&Nat.ble (len*n) (2 ^ 24)with
         | true=>some ((FT st true ps.toList).1,(st.new ⟨d::st.pre,some (E,n,len),cs,Aj cs⟩).put (some d) (.c (.osl (d::st.pre))))
         | false=>none
       | none=>none
     | none=>none
   | none=>none
 | _,_=>none
theorem aj {P:Program} {o:Oper} {st st':St} {l:List Prop} (h:oR P st o=some (l,st')) (hl:AC l):A2 o.op= .ef ∧(PL.ef P st o).1∧(PL.ef P st o).2=st':=by
 obtain⟨dst,op,ty,pos,aft,gd⟩:=o
 unfold oR at h
 simp only at h
 split at h
 case h_2=>cases h
 rename_i t len ps d
 refine⟨rfl,?_⟩
 simp only [PL.ef]
 unfold AI
 split at h
 ·rename_i h1
  split at h
  ·rename_i h2
   split at h
   ·rename_i h3
    split at h
    ·rename_i hb
     simp only [Option.some.injEq,Prod.mk.injEq]at h
     obtain⟨rfl,rfl⟩:=h
     simp_all [LU]
    ·cases h
   ·cases h
  ·cases h
 ·cases h
def cC (P:Program) (st:St) (o:Oper):DS→Option (List Prop×St)
 | .ld E n len cs=>oH P st o E n len cs
 | .ix E n len cs=>oI P st o E n len cs
 | .rd E n len cs u=>oJ P st o E n len cs u
 | .ln E n len cs=>oK P st o E n len cs
 | .st E n len ln cs cells=>oL P st o E n len ln cs cells
 | .ps cells=>oM P st o cells
 | .ab cells=>oN P st o cells
 | .lx E n len cs=>oO P st o E n len cs
 | .nw t=>oQ P st o t
 | .bs =>oR P st o
 | .aa ln cells=>oP P st o ln cells
theorem ak {P:Program} {I:World→Prop} {o:Oper} {st st':St} {K:St→Prop} {x:DS} {l:List Prop} (h:cC P st o x=some (l,st')) (hl:AC l) (hK:K st'):Z0 P I o st K:=by
 cases x<;>simp only [cC]at h
 case bs=>
  obtain⟨h1,h2,h3⟩:=aj h hl
  grind [Z0]
 all_goals refine .inl ?_
 ·exact f8 h hl hK
 ·exact f9 h hl hK
 all_goals grind [gc,gf,gg,gn,gp,gq,gy,gu]
def Ep (P:Program) (I:World→Prop) (dr:Bool) (ops:Array Oper) (o:Oper) (s:Stp) (st:St):Option (List Prop×St):=
 match o.guard with
 | none=>match A2 o.op with
   | .rd =>match ji P st true s.u o.op with
     | some (l,v)=>some (l,st.put o.dst v)
     | none=>none
   | .cut x=>match dr with
     | true=>match ji P st true s.u o.op with
       | some (l,v)=>some (l,st.put o.dst v)
       | none=>none
     | false=>match ji P (st.cutAt true x) true s.u o.op with
       | some (l,v)=>some (l,(st.cutAt true x).put o.dst v)
       | none=>none
   | .ef =>match dr with
     | true=>none
     | false=>cB P st s o
   | .call f xs=>match s with
     | .c r=>match Bv ((EO st true xs).2.map (A1 st))&&(r.flat||(!dr&&Nat.ble (B0 (EO st true xs).2).length 1&&(B0 (EO st true xs).2).all st.okFrz))with
       | true=>some ((EO st true xs).1++[Bp P I f ((EO st true xs).2.map (A1 st)) (· =r)],match dr with
         | true=>st.put o.dst r
         | false=>st.after (B0 (EO st true xs).2) o.dst r)
       | false=>none
     | _=>none
   | .no =>none
 | some (j,want)=>match EG st ops j want with
   | some g=>match A2 o.op with
     | .rd =>match ji P st g s.u o.op with
       | some ([],v)=>some ([],st.put o.dst (.g g v))
       | some (l,v)=>some ([g=true→AC l],st.put o.dst (.g g v))
       | none=>none
     | .cut _=>match dr with
       | true=>match ji P st g s.u o.op with
         | some ([],v)=>some ([],st.put o.dst (.g g v))
         | some (l,v)=>some ([g=true→AC l],st.put o.dst (.g g v))
         | none=>none
       | false=>none
     | .call f xs=>match s with
       | .c r=>match Bv ((EO st g xs).2.map (A1 st))&&(r.flat||(!dr&&(B0 (EO st g xs).2).isEmpty))with
         | true=>some ([g=true→AC (EO st g xs).1∧Bp P I f ((EO st g xs).2.map (A1 st)) (· =r)],st.put o.dst (.g g r))
         | false=>none
       | _=>none
     | .ef =>match dr with
       | true=>none
       | false=>match cB P st s o with
         | some (l,st')=>some (l++[g=true],st')
         | none=>none
     | _=>none
   | none=>none
def Fg (P:Program) (I:World→Prop) (dr:Bool) (ops:Array Oper) (o:Oper) (s:Stp) (st:St):Option (List Prop×St):=
 match s with
 | .D x=>match dr,o.guard with
   | false,none=>cC P st o x
   | _,_=>none
 | s=>Ep P I dr ops o s st
def De (P:Program) (I:World→Prop) (dr:Bool) (ops:Array Oper):List Oper→List Stp→St→Option (List Prop×St)
 | [],[],st=>some ([],st)
 | o::rest,s::ss,st=>match Fg P I dr ops o s st with
   | some (l,st')=>match De P I dr ops rest ss st' with
     | some (l',st'')=>some (l++l',st'')
     | none=>none
   | none=>none
 | _,_,_=>none
theorem cD {st:St} {g:Bool} {x:Operand}:(st.arg g x).2=(AD st g x).2:=by
 grind [AD,St.arg]
theorem RM {st:St} {g:Bool}: ∀ {xs:List Operand},(st.args g xs).2=(EO st g xs).2
 | []=>rfl
 | x::xs=>by simp only [St.args,EO,cD,RM (xs:=xs)]
theorem gz {P:Program} {I:World→Prop} {ops:Array Oper} {o:Oper} {x:DS} {st st':St} {l:List Prop} {K:St→Prop} (h:Fg P I false ops o (.D x) st=some (l,st')) (hl:AC l) (hK:K st'):RC P I ops o st K:=by
 grind [Fg,RC,ak]
theorem KQ {P:Program} {I:World→Prop} {ops:Array Oper} {o:Oper} {s:Stp} {st st':St} {l:List Prop} {K:St→Prop} (h:Fg P I false ops o s st=some (l,st')) (hl:AC l) (hK:K st'):RC P I ops o st K:=by
 by_cases hD: ∃ x,s= .D x
 ·obtain⟨x,rfl⟩:=hD
  exact gz h hl hK
 replace h:Ep P I false ops o s st=some (l,st'):=by
  cases s<;>first | exact h | grind
 unfold Ep at h
 unfold RC
 split at h
 ·rename_i hg
  rw [hg]
  simp only
  unfold Z0
  right
  split at h
  ·rename_i hk
   simp only [hk]
   split at h
   ·rename_i l v ho
    simp only [Option.some.injEq,Prod.mk.injEq]at h
    obtain⟨rfl,rfl⟩:=h
    grind [CB]
   ·cases h
  ·rename_i x hk
   simp only [hk]
   dsimp only at h
   split at h
   ·rename_i l v ho
    simp only [Option.some.injEq,Prod.mk.injEq]at h
    obtain⟨rfl,rfl⟩:=h
    grind [CB]
   ·cases h
  ·grind [LV]
  ·rename_i f xs hk
   simp only [hk]
   split at h
   ·rename_i r
    split at h
    ·rename_i hb
     simp only [Option.some.injEq,Prod.mk.injEq]at h
     obtain⟨rfl,rfl⟩:=h
     obtain⟨q1,q2,_⟩:=Af.1 hl
     obtain⟨k1,k2⟩:=FQ q1
     simp only [Bool.and_eq_true,Bool.or_eq_true,Bool.not_false,true_and,Nat.ble_eq,List.all_eq_true]at hb
     grind
    ·cases h
   ·cases h
  ·cases h
 ·rename_i j want hg
  rw [hg]
  simp only
  split at h
  ·rename_i g hq
   rw [hq]
   simp only
   unfold jR
   by_cases hef:A2 o.op= .ef
   ·left
    rw [hef]at h
    dsimp only at h
    split at h
    ·rename_i l1 st1 h1
     simp only [Option.some.injEq,Prod.mk.injEq]at h
     obtain⟨rfl,rfl⟩:=h
     obtain⟨q1,q2,_⟩:=Af.1 hl
     grind [Z0,LV]
    ·cases h
   right
   split at h
   ·rename_i hk
    simp only [hk]
    split at h
    ·rename_i v ho
     simp only [Option.some.injEq,Prod.mk.injEq]at h
     obtain⟨rfl,rfl⟩:=h
     exact⟨v,fun _=>CB ho trivial,hK⟩
    ·rename_i l v hne ho
     simp only [Option.some.injEq,Prod.mk.injEq]at h
     obtain⟨rfl,rfl⟩:=h
     exact⟨v,fun hgt=>CB ho (hl.1 hgt),hK⟩
    ·cases h
   ·cases h
   ·rename_i f xs hk
    simp only [hk]
    split at h
    ·rename_i r
     split at h
     ·rename_i hb
      simp only [Option.some.injEq,Prod.mk.injEq]at h
      obtain⟨rfl,rfl⟩:=h
      simp only [Bool.and_eq_true,Bool.or_eq_true,Bool.not_false,true_and,List.isEmpty_iff]at hb
      refine⟨fun hgt=>?_,r,(by grind [RM]),fun hgt=>?_,hK⟩
      ·obtain⟨k1,k2⟩:=FQ (hl.1 hgt).1
       grind
      ·obtain⟨k1,k2⟩:=FQ (hl.1 hgt).1
       rw [k2]
       exact(hl.1 hgt).2
     ·cases h
    ·cases h
   all_goals grind
  ·cases h
theorem cE {P:Program} {I:World→Prop} {ops:Array Oper} {o:Oper} {s:Stp} {st st':St} {l:List Prop} {K:St→Prop} (h:Fg P I true ops o s st=some (l,st')) (hl:AC l) (hK:K st'):fT P I ops o st K:=by
 replace h:Ep P I true ops o s st=some (l,st'):=by
  cases s<;>first | exact h | grind [Fg]
 unfold Ep at h
 unfold fT
 split at h
 ·rename_i hg
  rw [hg]
  simp only
  unfold je
  split at h
  ·rename_i hk
   simp only [hk]
   split at h
   ·rename_i l v ho
    simp only [Option.some.injEq,Prod.mk.injEq]at h
    obtain⟨rfl,rfl⟩:=h
    grind [CB]
   ·cases h
  ·rename_i x hk
   simp only [hk]
   dsimp only at h
   split at h
   ·rename_i l v ho
    simp only [Option.some.injEq,Prod.mk.injEq]at h
    obtain⟨rfl,rfl⟩:=h
    grind [CB]
   ·cases h
  ·grind
  ·rename_i f xs hk
   simp only [hk]
   split at h
   ·rename_i r
    split at h
    ·rename_i hb
     simp only [Option.some.injEq,Prod.mk.injEq]at h
     obtain⟨rfl,rfl⟩:=h
     obtain⟨q1,q2,_⟩:=Af.1 hl
     obtain⟨k1,k2⟩:=FQ q1
     grind
    ·cases h
   ·cases h
  ·cases h
 ·rename_i j want hg
  rw [hg]
  simp only
  split at h
  ·rename_i g hq
   rw [hq]
   simp only
   unfold jf
   split at h
   ·rename_i hk
    simp only [hk]
    split at h
    ·rename_i v ho
     simp only [Option.some.injEq,Prod.mk.injEq]at h
     obtain⟨rfl,rfl⟩:=h
     exact⟨v,fun _=>CB ho trivial,hK⟩
    ·rename_i l v hne ho
     simp only [Option.some.injEq,Prod.mk.injEq]at h
     obtain⟨rfl,rfl⟩:=h
     exact⟨v,fun hgt=>CB ho (hl.1 hgt),hK⟩
    ·cases h
   ·rename_i x hk
    simp only [hk]
    dsimp only at h
    split at h
    ·rename_i v ho
     simp only [Option.some.injEq,Prod.mk.injEq]at h
     obtain⟨rfl,rfl⟩:=h
     exact⟨v,fun _=>CB ho trivial,hK⟩
    ·rename_i l v hne ho
     simp only [Option.some.injEq,Prod.mk.injEq]at h
     obtain⟨rfl,rfl⟩:=h
     exact⟨v,fun hgt=>CB ho (hl.1 hgt),hK⟩
    ·cases h
   ·rename_i f xs hk
    simp only [hk]
    split at h
    ·rename_i r
     split at h
     ·rename_i hb
      simp only [Option.some.injEq,Prod.mk.injEq]at h
      obtain⟨rfl,rfl⟩:=h
      simp only [Bool.and_eq_true,Bool.or_eq_true,Bool.not_true,Bool.false_eq_true,false_and,or_false]at hb
      refine⟨fun hgt=>?_,r,hb.2,fun hgt=>?_,hK⟩
      ·obtain⟨k1,k2⟩:=FQ (hl.1 hgt).1
       grind
      ·obtain⟨k1,k2⟩:=FQ (hl.1 hgt).1
       rw [k2]
       exact(hl.1 hgt).2
     ·cases h
    ·cases h
   all_goals grind
  ·cases h
theorem TG {P:Program} {I:World→Prop} {ops:Array Oper}: ∀ {l:List Oper} {ss:List Stp} {st st':St} {cs:List Prop} {K:St→Prop},De P I false ops l ss st=some (cs,st')→AC cs→K st'→Dd P I ops l st K
 | [],[],st,st',cs,K,h,_,hK=>by
   simp only [De,Option.some.injEq,Prod.mk.injEq]at h
   obtain⟨rfl,rfl⟩:=h
   exact hK
 | o::rest,s::ss,st,st',cs,K,h,hl,hK=>by
   simp only [De]at h
   split at h
   ·rename_i l1 st1 h1
    split at h
    ·rename_i l2 st2 h2
     simp only [Option.some.injEq,Prod.mk.injEq]at h
     obtain⟨rfl,rfl⟩:=h
     obtain⟨q1,q2⟩:=Af.1 hl
     exact KQ (K:=fun s=>Dd P I ops rest s K) h1 q1 (TG h2 q2 hK)
    ·cases h
   ·cases h
 | [],_::_,_,_,_,_,h,_,_=>by simp [De]at h
 | _::_,[],_,_,_,_,h,_,_=>by simp [De]at h
theorem YT {P:Program} {I:World→Prop} {ops:Array Oper}: ∀ {l:List Oper} {ss:List Stp} {st st':St} {cs:List Prop} {K:St→Prop},De P I true ops l ss st=some (cs,st')→AC cs→K st'→MM P I ops l st K
 | [],[],st,st',cs,K,h,_,hK=>by
   simp only [De,Option.some.injEq,Prod.mk.injEq]at h
   obtain⟨rfl,rfl⟩:=h
   exact hK
 | o::rest,s::ss,st,st',cs,K,h,hl,hK=>by
   simp only [De]at h
   split at h
   ·rename_i l1 st1 h1
    split at h
    ·rename_i l2 st2 h2
     simp only [Option.some.injEq,Prod.mk.injEq]at h
     obtain⟨rfl,rfl⟩:=h
     obtain⟨q1,q2⟩:=Af.1 hl
     exact cE (K:=fun s=>MM P I ops rest s K) h1 q1 (YT h2 q2 hK)
    ·cases h
   ·cases h
 | [],_::_,_,_,_,_,h,_,_=>by simp [De]at h
 | _::_,[],_,_,_,_,h,_,_=>by simp [De]at h
section
variable {P:Program} {F:Fr} {st:St}
theorem Ah.reg {id:Nat} {l:List Oper} {Q:Exit→St→Prop} {ss:List Stp} {cs:List Prop} {st':St} (hr:De P F.I false l.toArray l ss st=some (cs,st')) (hl:AC cs) (h:Q .normal st'):Ah P F (.region id l.toArray false) st Q:=
 Ah.region (TG hr hl h)
theorem Ah.regQ {id:Nat} {l:List Oper} {Q:Exit→St→Prop} {ss:List Stp} {cs:List Prop} {st':St} (h1:P.follows .mixedOrders =true) (h2:Region.lexB .any l.toArray=true) (hr:De P F.I true l.toArray l ss st=some (cs,st')) (hl:AC cs) (h:Q .normal st'):Ah P F (.region id l.toArray true) st Q:=
 Ah.regionQ h1 h2 (YT hr hl h)
theorem Ah.ifB {c:Operand} {x y:Code} {Q:Exit→St→Prop} (b:Bool) (hc:st.ev c= .c (.bool b)) (h1:b=true→Ah P F x st Q) (h2:b=false→Ah P F y st Q):Ah P F (.cond c x y) st Q:=Ah.cond hc h1 h2
def iter {σ ρ:Type} (B:σ→Option (σ⊕ρ)):Nat→σ→Option ρ
 | 0,_=>none
 | n+1,s=>match B s with
   | some (.inl s')=>iter B n s'
   | some (.inr r)=>some r
   | none=>none
end
def A3 (x:Int):Int:=IntKind.i64.wrap x
def gd {α:Type} [Inhabited α] (g:Bool) (o:Option α):Option α:=if g=true then o else some default
def Gk {α:Type} [Inhabited α] (l:List α) (i:Int):Option α:=if 0≤i∧i<l.length then some (l.getD i.toNat default)else none
def al (s:List UInt8) (i:Int):Option Int:=if 0≤i∧i<s.length then some (s.getD i.toNat 0).toNat else none
def mU (a b:List UInt8):Option (List UInt8):=if a.length+b.length≤maxLen then some (a++b)else none
def am (s:List UInt8) (a b:Int):Option (List UInt8):=if 0≤a∧a≤b∧b≤s.length then some ((s.drop a.toNat).take (b.toNat - a.toNat))else none
def Xx {α:Type} (s:List α) (a b:Int):Option (List α):=if 0≤a∧a≤b∧b≤s.length then some ((s.drop a.toNat).take (b.toNat - a.toNat))else none
def U3 {α:Type} (by':Nat) (l m:List α):Option (List α):=if(l.length+m.length)*by'≤140737488355328∧l.length+m.length≤maxLen then some (l++m)else none
def Fb (p:Prop) [Decidable p]:Option Unit:=if p then some ()else none
theorem bS {α β:Type} {o:Option α} {k:α→Option β} {r:β} (h:o.bind k=some r): ∃ x,o=some x∧k x=some r:=by
 cases o<;>grind
theorem sI {α:Type} {x y:α} (h:some x=some y):x=y:=Option.some.inj h
section
variable {α:Type} [Inhabited α] {l m r:List α} {i:Int} {x:α} {g:Bool}
theorem Fh (h:Gk l i=some x):0≤i∧i<l.length:=by grind [Gk]
theorem Vy (h:Gk l i=some x):x=l.getD i.toNat default:=by grind [Gk]
theorem Xy {o:Option α} (h:gd g o=some x):g=true→o=some x:=fun hg=>by simp_all [gd]
theorem kh (h:gd g (Gk l i)=some x):g=true→(0≤i∧i<l.length)∧True:=fun hg=>⟨Fh (Xy h hg),trivial⟩
theorem kj {s:List UInt8} {n:Int} (h:al s i=some n):0≤i∧i<s.length:=by grind [al]
theorem kk {s:List UInt8} {n:Int} (h:al s i=some n):n=(s.getD i.toNat 0).toNat :=by grind [al]
theorem mV {a b c:List UInt8} (h:mU a b=some c):a.length+b.length≤maxLen:=by grind [mU]
theorem mW {a b c:List UInt8} (h:mU a b=some c):c=a++b:=by grind [mU]
theorem kl {s c:List UInt8} {a b:Int} (h:am s a b=some c):0≤a∧a≤b∧b≤s.length:=by grind [am]
theorem km {s c:List UInt8} {a b:Int} (h:am s a b=some c):c=(s.drop a.toNat).take (b.toNat - a.toNat):=by grind [am]
omit [Inhabited α] in
theorem KS {b:Nat} (h:U3 b l m=some r):(l.length+m.length)*b≤140737488355328∧l.length+m.length≤maxLen:=by grind [U3]
omit [Inhabited α] in
theorem Vz {b:Nat} (h:U3 b l m=some r):r=l++m:=by grind [U3]
end
theorem BP {p:Prop} [Decidable p] {u:Unit} (h:Fb p=some u):p:=by grind [Fb]
def eI (k:IntKind) (v:Int):List C:=[.int k v]
def eB (v:Bool):List C:=[.bool v]
def eS (v:List UInt8):List C:=[.str v]
def eL {α:Type} (e:α→List C) (l:List α):List C:=[.sl l.length (l.flatMap e)]
theorem TH {α:Type} [Inhabited α] {l:List α} {i:Int} {x:α} {e:α→List C} {N:Nat} {o n:Nat} {ag:Bool} {v:V} {off:Nat} (hx:Gk l i=some x) (hN: ∀ y,(e y).length =N) (hoff:off=i.toNat*N+o) (ho:o+n≤N) (h0:ag=true∨0<n)
 (hv:toV ag o n (e x)=v):off+n≤(l.flatMap e).length ∧toV ag off n (l.flatMap e)=v:=by
 have hb:=Fh hx
 have hxx:=Vy hx
 have hlt:i.toNat<l.length:=by omega
 subst hoff
 rw [BO hN]
 constructor
 ·have:(i.toNat+1)*N≤l.length*N:=Nat.mul_le_mul_right _ hlt
  grind
 ·rw [←hv]
  unfold toV
  cases ag with
  | true=>simp only [if_true];grind [RI]
  | false=>simp only [Bool.false_eq_true,if_false];grind [cm]
def cF (P:Program) (st:St):ResultVar→Option V
 | .tmp t=>some (st.get t)
 | .cell t T=>match YN P T st [] (st.get t)with
   | some (_,v)=>some v
   | none=>none
def RN (P:Program) (st:St):List ResultVar→Option (List V)
 | []=>some []
 | x::xs=>match cF P st x,RN P st xs with
   | some v,some vs=>some (v::vs)
   | _,_=>none
def cG (P:Program) (st:St):List ResultVar→Option V
 | [x]=>cF P st x
 | xs=>match RN P st xs with
   | some vs=>some (.tup vs)
   | none=>none
theorem OQ {P:Program} {st:St} {x:ResultVar} {v:V} (h:cF P st x=some v):(I7 P st x).1∧(I7 P st x).2=v:=by
 cases x with
 | tmp t=>simp only [cF,Option.some.injEq]at h;exact⟨trivial,h⟩
 | cell t T=>
   simp only [cF]at h
   split at h
   ·rename_i l u hl
    injection h with h;subst h
    have:=MV hl
    exact⟨this.2.1,this.2.2⟩
   ·cases h
theorem MZ {P:Program} {st:St}: ∀ {xs:List ResultVar} {vs:List V},RN P st xs=some vs→(CQ P st xs).1∧(CQ P st xs).2=vs
 | [],vs,h=>by simp only [RN,Option.some.injEq]at h;subst h;exact⟨trivial,rfl⟩
 | x::xs,vs,h=>by
   simp only [RN]at h
   split at h
   ·rename_i v us h1 h2
    injection h with h;subst h
    have a:=OQ h1
    have b:=MZ h2
    exact⟨⟨a.1,b.1⟩,by simp only [CQ,a.2,b.2]⟩
   ·cases h
theorem VA {P:Program} {st:St} {x:ResultVar}:(KI P st x).1=(I7 P st x).1∧(KI P st x).2=A1 st (I7 P st x).2:=by cases x<;>exact⟨rfl,rfl⟩
theorem RO {P:Program} {st:St}: ∀ {xs:List ResultVar},(DG P st xs).1=(CQ P st xs).1∧(DG P st xs).2=(CQ P st xs).2.map (A1 st)
 | []=>⟨rfl,rfl⟩
 | x::xs=>by
   have a:=VA (P:=P) (st:=st) (x:=x)
   have b:=RO (P:=P) (st:=st) (xs:=xs)
   simp only [DG,CQ,a.1,a.2,b.1,b.2,List.map_cons,and_self]
def cH (st:St) (rs:List ResultVar):V→V
 | .tup vs=>match rs with
   | [_]=> .tup vs
   | _=> .tup (vs.map (A1 st))
 | v=>A1 st v
theorem YU {P:Program} {st:St} {rs:List ResultVar} {v r:V} {e:Exit} (he:e= .normal ∨e= .ret) (h:cG P st rs=some v) (hs:cH st rs v=r) (hp:r.pure=true) {r':V} (hr:r=r'):
 (e= .normal ∨e= .ret)∧(Cp P st rs).1∧(Cp P st rs).2.pure =true∧(Cp P st rs).2=r':=by
 subst hr
 have key:(Cp P st rs).1∧(Cp P st rs).2=r:=by
  match rs with
  | [x]=>
    have a:=OQ h
    have b:=VA (P:=P) (st:=st) (x:=x)
    simp only [Cp]
    rw [b.1,b.2,a.2, ←hs]
    exact⟨a.1,by cases v<;>rfl⟩
  | []=>
    simp only [cG,RN,Option.some.injEq]at h
    subst h;subst hs
    exact⟨trivial,rfl⟩
  | x::y::xs=>
    simp only [cG]at h
    split at h
    ·rename_i vs hv
     injection h with h;subst h
     have a:=MZ hv
     have b:=RO (P:=P) (st:=st) (xs:=x::y::xs)
     simp only [Cp]
     rw [b.1,b.2,a.2, ←hs]
     exact⟨a.1,rfl⟩
    ·cases h
 grind
def M0:List Bool→List V→List V
 | [],_=>[]
 | true::m,v::vs=>v::M0 m vs
 | false::m,_::vs=> .undef ::M0 m vs
 | _::_,[]=>[]
theorem YV: ∀ {m:List Bool} {l l':List V},m.length=l.length→M0 m l=l'→Vk l l'
 | [],[],l',_,h=>by simp only [M0]at h;subst h;trivial
 | true::m,v::vs,l',hl,h=>by simp only [M0]at h;subst h;exact⟨.inr rfl,YV (by grind) rfl⟩
 | false::m,v::vs,l',hl,h=>by simp only [M0]at h;subst h;exact⟨.inl rfl,YV (by grind) rfl⟩
 | [],_::_,_,hl,_=>by simp at hl
 | _::_,[],_,hl,_=>by simp at hl
section
variable {P:Program} {F:Fr} {st:St}
end
theorem mX {α β γ:Type} {f:α→γ} {g:β→γ} {a:α} {r:γ} (h:Sum.elim f g (.inl a)=r):f a=r:=h
theorem mY {α β γ:Type} {f:α→γ} {g:β→γ} {a:β} {r:γ} (h:Sum.elim f g (.inr a)=r):g a=r:=h
def FU:Nat:=9223372036854775807
theorem Xz {α:Type} [Inhabited α] {l:List α} {i:Int} {x:α} {e:α→List C} {N:Nat} {o n base:Nat} {ag:Bool} {v:V} {off:Nat} {cs pre post:List C} (hcs:cs=pre++(l.flatMap e++post)) (hb:pre.length=base) (hx:Gk l i=some x) (hN: ∀ y,(e y).length =N) (hoff:off=base+(i.toNat*N+o)) (ho:o+n≤N) (h0:ag=true∨0<n)
 (hv:toV ag o n (e x)=v):off+n≤cs.length∧toV ag off n cs=v:=by
 obtain⟨h1,h2⟩:=TH hx hN rfl ho h0 hv
 subst hcs hoff hb
 constructor
 ·grind
 ·rw [←h2]
  unfold toV
  cases ag with
  | true=>
    simp only [if_true]
    rw [←List.drop_drop,List.drop_left,List.drop_append_of_le_length (by omega),List.take_append_of_le_length (by simp only [List.length_drop];omega)]
  | false=>
    grind
end Go.PL
namespace Go.PL
open Go Go.RowKit
def CT (n k:Nat):List Bool:=(List.range k).map (Nat.testBit n)
theorem ao (n k:Nat):(CT n k).length =k:=by simp [CT]
theorem RP (n k i:Nat):(CT n k).toArray.setIfInBounds i true=(CT (n||| 2 ^ i) k).toArray :=by
 apply Array.ext
 ·simp [CT]
 ·intro j h1 h2
  have hj:j<k:=by simpa [CT] using h2
  have e:((CT n k).toArray.setIfInBounds i true).toList =(CT n k).set i true:=by simp
  have e2:((CT n k).toArray.setIfInBounds i true)[j]=((CT n k).set i true)[j]'(by grind):=by grind
  grind [CT]
def rdyL (ops:Array Oper) (n:Nat):List Nat:=Region.ready .any ops (CT n ops.size).toArray
def NU (ops:Array Oper) (nodes:List Nat):Bool:=
 nodes.contains 0&&nodes.all fun n=>(!(rdyL ops n).isEmpty ||(CT n ops.size).all id)&&(rdyL ops n).all fun i=>nodes.contains (n||| 2 ^ i)
def cI (ids:List Ae) (st:St):St:={st with so:=ids.filterMap fun i=>st.so.find? fun e=>e.id==i}
theorem RQ (ids:List Ae) (hn:ids.Nodup) (st:St):Bk st (cI ids st) where
 len:=rfl
 tm:=fun _=> .inr rfl
 so:=(by grind [cI])
 nd:=fun _=>by
  have: ∀ ids:List Ae,((ids.filterMap fun i=>st.so.find? fun e=>e.id==i).map (·.id)).Sublist ids:=by
   intro ids
   induction ids with
   | nil=>simp
   | cons i ids ih=>
     simp only [List.filterMap_cons]
     split
     all_goals grind
  exact List.Sublist.nodup (this ids) hn
 gh:=⟨rfl,fun _=> .inr rfl⟩
 pre:=rfl
def VB (P:Program) (I:World→Prop) (ops:Array Oper) (ss:List Stp) (ids:List Ae) (st:St) (i:Nat):Option (List Prop×St):=
 match ops[i]?,ss[i]? with
 | some o,some s=>match Fg P I false ops o s st with
   | some (c,st')=>some (c,cI ids st')
   | none=>none
 | _,_=>none
def mZ (P:Program) (I:World→Prop) (ops:Array Oper) (ss:List Stp) (ids:List Ae) (SL:Nat→St) (nodes:List Nat):List (Option (List Prop×St)):=
 nodes.flatMap fun n=>(rdyL ops n).map fun i=>VB P I ops ss ids (SL n) i
def jk (ops:Array Oper) (cs:List (List Prop)) (SL:Nat→St) (nodes:List Nat):List (Option (List Prop×St)):=
 nodes.flatMap fun n=>(rdyL ops n).map fun i=>some (cs.getD i [],SL (n||| 2 ^ i))
theorem YW {α β:Type} {f g:α→Nat→β} {r:α→List Nat}: ∀ {l:List α},(l.flatMap fun n=>(r n).map (f n))=(l.flatMap fun n=>(r n).map (g n))→ ∀ n∈l, ∀ i∈r n,f n i=g n i
 | [],_,n,hn,_,_=>by simp at hn
 | a::l,h,n,hn,i,hi=>by
   simp only [List.flatMap_cons]at h
   have hh:=List.append_inj h (by simp)
   rcases List.mem_cons.1 hn with rfl | hn
   ·simp_all
   ·exact YW hh.2 n hn i hi
def KT:List (List Prop)→Prop
 | []=>True
 | l::ls=>AC l∧KT ls
theorem LW: ∀ {cs:List (List Prop)},KT cs→ ∀ i,AC (cs.getD i [])
 | [],_,i=>by simp [AC]
 | l::ls,h,0=>by simpa using h.1
 | l::ls,h,i+1=>by simpa using LW h.2 i
section
variable {P:Program} {F:Fr} {st:St} {ops:Array Oper}
theorem IT {a:Act} {w:World} {G:Au} (h:R F st a w G) {o:Oper} {K:St→Prop} {Q:Exit→Act→World→Prop} (hs:RC P F.I ops o st K):
 if Region.wanted o (yielded ops a.tmps)=true then o.wp P a w (U2 F K) Q else U2 F K (a.put o.dst Go.undef) w:=by
 unfold RC at hs
 split at hs
 ·rename_i hg
  rw [CO hg,if_pos rfl]
  exact IQ h hs
 ·rename_i j want hg
  split at hs
  ·rename_i g hq
   rw [FO h hg hq]
   exact RE h hs
  grind
def cJ (l:List Bool):Nat:=(l.filter (! ·)).length
theorem TI: ∀ (l:List Bool) (i:Nat),l[i]? =some false→cJ (l.set i true)+1=cJ l
 | [],i,h=>by simp at h
 | b::l,0,h=>by grind [cJ]
 | b::l,i+1,h=>by
   have:=TI l i (by simpa using h)
   cases b<;>simp_all [cJ]<;>omega
theorem VC: ∀ (l:List Bool),cJ l=0→l.all id=true
 | [],_=>rfl
 | true::l,h=>by simp_all [cJ]
 | false::l,h=>by simp [cJ]at h
theorem oS {nodes:List Nat} {ss:List Stp} {ids:List Ae} {cs:List (List Prop)} {SL:Nat→St} {Q:Exit→St→Prop} (hcl:NU ops nodes=true) (hids:ids.Nodup)
 (hst:mZ P F.I ops ss ids SL nodes=jk ops cs SL nodes) (hc:KT cs) (hQ: ∀ n∈nodes,(CT n ops.size).all id=true→Q .normal (SL n)):
 ∀ (fuel n:Nat) (a:Act) (w:World) (G:Au),n∈nodes→cJ (CT n ops.size)≤fuel→R F (SL n) a w G→
   wpAny P .any ops (fun e a' w'=> ∃ st' G',Q e st'∧R F st' a' w' G') fuel (CT n ops.size).toArray a w:=by
 simp only [NU,Bool.and_eq_true,List.all_eq_true,Bool.or_eq_true,Bool.not_eq_true',List.contains_iff_mem]at hcl
 have hall:=YW (r:=rdyL ops) hst
 have rdyFalse: ∀ n i,i∈rdyL ops n→(CT n ops.size)[i]? =some false:=by
  intro n i hi
  unfold rdyL Region.ready at hi
  simp only [List.mem_filter,List.mem_range,Bool.and_eq_true,Bool.not_eq_true']at hi
  obtain⟨h1,h2,_⟩:=hi
  simp_all [ao]
 intro fuel
 induction fuel with
 | zero=>
   intro n a w G hn hu hR
   have hz:=VC _ (Nat.le_zero.1 hu)
   have hr:rdyL ops n=[]:=by
    rcases hrr:rdyL ops n with _ | ⟨i,r⟩
    ·rfl
    ·have:=rdyFalse n i (by rw [hrr];simp)
     rw [List.all_eq_true]at hz
     have:=hz false (List.mem_of_getElem? this)
     simp at this
   exact⟨hr,_,G,hQ n hn hz,hR⟩
 | succ fuel ih=>
   intro n a w G hn hu hR
   refine⟨fun hr=>?_,fun i hi=>?_⟩
   ·grind [rdyL]
   ·have hi':i∈rdyL ops n:=hi
    have hstep:=hall n hn i hi'
    unfold VB at hstep
    split at hstep
    ·rename_i o s ho hs
     split at hstep
     ·rename_i c st' hss
      simp only [Option.some.injEq,Prod.mk.injEq]at hstep
      obtain⟨hcc,hst'⟩:=hstep
      have hwp:=KQ (K:=fun s'=>Bk s' (SL (n||| 2 ^ i))) hss (hcc▸LW hc i) (hst'▸RQ ids hids st')
      have hw:=IT (Q:=fun e a' w'=> ∃ st' G',Q e st'∧R F st' a' w' G') hR hwp
      have hnext: ∀ a' w',U2 F (fun s'=>Bk s' (SL (n||| 2 ^ i))) a' w'→wpAny P .any ops (fun e a' w'=> ∃ st' G',Q e st'∧R F st' a' w' G') fuel ((CT n ops.size).toArray.setIfInBounds i true) a' w':=by
       intro a' w' ⟨s',G',hl,hR'⟩
       rw [RP]
       refine ih (n||| 2 ^ i) a' w' G' (by grind) ?_ (hR'.less hl)
       have hb:=rdyFalse n i hi'
       have e:CT (n||| 2 ^ i) ops.size=(CT n ops.size).set i true:=by
        have:=congrArg Array.toList (RP n ops.size i)
        grind
       grind [TI]
      unfold wpOp
      rw [ho]
      simp only
      by_cases hwt:Region.wanted o (yielded ops a.tmps)=true
      ·rw [if_pos hwt]at hw ⊢
       grind [Oper.wp_mono]
      grind
     grind
    grind
theorem Ah.regN {rid:Nat} {l:List Oper} {Q:Exit→St→Prop} (nodes:List Nat) (full:Nat) (ss:List Stp) (ids:List Ae) (SL:Nat→St) (cs:List (List Prop)) (h1:P.follows .mixedOrders =true) (hcl:NU l.toArray nodes=true) (hfull:(nodes.all fun n=> !(CT n l.length).all id||Nat.beq n full)=true) (hids:ids.Nodup)
 (h0:Bk st (SL 0)) (hst:mZ P F.I l.toArray ss ids SL nodes=jk l.toArray cs SL nodes) (hc:KT cs) (hQ:Q .normal (SL full)):Ah P F (.region rid l.toArray true) st Q:=by
 intro a w G hR
 refine wp_region_any h1 ?_
 have hR':=(hR.less h0).same (w':={w with drawn:=w.drawn+1}) ⟨rfl,rfl,rfl⟩ ⟨Nat.le_refl _,fun _ _=>rfl⟩
 have h0':CT 0 l.toArray.size=List.replicate l.toArray.size false:=by
  apply List.ext_getElem<;>simp [CT]
 have key:=oS (P:=P) (ops:=l.toArray) (Q:=Q) hcl hids hst hc (fun n hn hall=>by
  have:=List.all_eq_true.1 hfull n hn
  simp_all) l.toArray.size 0 a _ G (by
   simp_all [NU]) (by
   rw [h0'];simp [cJ]) hR'
 grind
end
end Go.PL
namespace Go.PL
open Go Go.RowKit
section
variable {P:Program} {I:World→Prop} {ops:Array Oper} {st st':St} {K:St→Prop}
theorem RR: ∀ {l:List Oper} {n:Nat} {ss:List Stp} {st st':St} {cs:List Prop},De P I false ops (l.take n) ss st=some (cs,st')→AC cs→Dd P I ops (l.drop n) st' K→Dd P I ops l st K
 | l,0,ss,st,st',cs,h,hc,hK=>by
   cases ss with
   | nil=>
     simp only [List.take_zero,De,Option.some.injEq,Prod.mk.injEq]at h
     grind
   | cons=>simp [De]at h
 | [],n+1,ss,st,st',cs,h,hc,hK=>by
   cases ss with
   | nil=>
     simp only [List.take_nil,De,Option.some.injEq,Prod.mk.injEq]at h
     grind
   | cons=>simp [De]at h
 | o::l,n+1,[],st,st',cs,h,hc,hK=>by simp [De]at h
 | o::l,n+1,s::ss,st,st',cs,h,hc,hK=>by
   simp only [List.take_succ_cons,De]at h
   split at h
   ·rename_i l1 st1 h1
    split at h
    ·rename_i l2 st2 h2
     simp only [Option.some.injEq,Prod.mk.injEq]at h
     obtain⟨rfl,rfl⟩:=h
     obtain⟨q1,q2⟩:=Af.1 hc
     exact KQ (K:=fun s=>Dd P I ops l s K) h1 q1 (RR h2 q2 (by simpa using hK))
    ·cases h
   ·cases h
theorem Run.part {l:List Oper} (n:Nat) {ss:List Stp} {cs:List Prop} (st':St) (h:De P I false ops (l.take n) ss st=some (cs,st')) (hc:AC cs) (hK:Dd P I ops (l.drop n) st' K):Dd P I ops l st K:=RR h hc hK
theorem Run.whole {l:List Oper} {ss:List Stp} {cs:List Prop} (st':St) (h:De P I false ops l ss st=some (cs,st')) (hc:AC cs) (hK:K st'):Dd P I ops l st K:=TG h hc hK
theorem Run.inl {l rest:List Oper} {o:Oper} (hl:l=o::rest) (hg:o.guard=none) (h:Dk P I o st (fun st'=>Dd P I ops rest st' K)):Dd P I ops l st K:=by
 subst hl
 simp only [Dd,RC,hg]
 exact .inl h
end
end Go.PL
namespace Go.PL
open Go Go.RowKit
end Go.PL
namespace Go.PL
open Go Go.RowKit
theorem OR {α:Type} (e:α→List C) {N:Nat} (hN: ∀ y,(e y).length =N): ∀ (l:List α) (k:Nat) (x:α),l[k]? =some x→l.flatMap e=(l.take k).flatMap e++(e x++(l.drop (k+1)).flatMap e)∧((l.take k).flatMap e).length =k*N
 | [],k,x,h=>by simp at h
 | a::l,0,x,h=>by grind
 | a::l,k+1,x,h=>by
   obtain⟨h1,h2⟩:=OR e hN l k x (by simpa using h)
   constructor
   ·rw [List.flatMap_cons,h1];simp [List.append_assoc]
   ·simp [h2,hN,Nat.add_mul];omega
theorem RS {α:Type} (e:α→List C): ∀ (l:List α) (k:Nat) (x':α),k<l.length→(l.set k x').flatMap e=(l.take k).flatMap e++(e x'++(l.drop (k+1)).flatMap e)
 | [],k,x,h=>by simp at h
 | a::l,0,x,h=>by simp
 | a::l,k+1,x,h=>by
   rw [List.set_cons_succ,List.flatMap_cons,RS e l k x (by simpa using h)]
   simp [List.append_assoc]
theorem kn {α:Type} [Inhabited α] {l:List α} {i:Int} {x x':α} {e:α→List C} {N o off:Nat} {cs pre post:List C} (hx:Gk l i=some x) (hN: ∀ y,(e y).length =N) (hoff:off=pre.length+(i.toNat*N+o)) (ho:o+cs.length≤N)
 (hx':(e x).take o++(cs++(e x).drop (o+cs.length))=e x'):off+cs.length≤(pre++(l.flatMap e++post)).length ∧
  (pre++(l.flatMap e++post)).take off++cs++(pre++(l.flatMap e++post)).drop (off+cs.length)=pre++((l.set i.toNat x').flatMap e++post):=by
 have hb:=Fh hx
 have hlt:i.toNat<l.length:=by omega
 have hk:l[i.toNat]? =some x:=by
  rw [Vy hx,List.getElem?_eq_getElem hlt,List.getD_eq_getElem?_getD,List.getElem?_eq_getElem hlt];rfl
 obtain⟨h1,h2⟩:=OR e hN l i.toNat x hk
 have h3:=RS e l i.toNat x' hlt
 have hex:=hN x
 rw [h1,h3, ←hx']
 subst hoff
 generalize (l.take i.toNat).flatMap e=A at *
 generalize (l.drop (i.toNat+1)).flatMap e=B at *
 generalize e x=X at *
 constructor
 ·grind
 ·have e1:pre++(A++(X++B)++post)=(pre++(A++X.take o))++((X.drop o).take cs.length++(X.drop (o+cs.length)++(B++post))):=by
   grind [List.drop_drop,List.take_append_drop]
  have l1:(pre++(A++X.take o)).length =pre.length+(i.toNat*N+o):=by grind
  have l2:((X.drop o).take cs.length).length =cs.length:=by grind
  generalize (X.drop o).take cs.length=M at *
  generalize X.drop (o+cs.length)=Z at *
  rw [e1, ←l1,List.take_left, ←List.drop_drop,List.drop_left, ←l2,List.drop_left]
  grind
theorem cK {α:Type} [Inhabited α] {l l':List α} {i:Int} {x x':α} {e:α→List C} {N o off base:Nat} {c0 c1 cs pre post:List C} (hc0:c0=pre++(l.flatMap e++post)) (hb:pre.length=base) (hc1:c1=pre++(l'.flatMap e++post)) (hl:l'=l.set i.toNat x') (hx:Gk l i=some x) (hN: ∀ y,(e y).length =N)
 (hoff:off=base+(i.toNat*N+o)) (ho:o+cs.length≤N) (hx':(e x).take o++(cs++(e x).drop (o+cs.length))=e x'):off+cs.length≤c0.length∧c0.take off++cs++c0.drop (off+cs.length)=c1:=by
 subst hc0 hc1 hl hb
 exact kn hx hN hoff ho hx'
end Go.PL
namespace Go.PL
open Go Go.RowKit
def slots:Nat→Nat→List (Nat×V)→List V
 | 0,_,_=>[]
 | n+1,i,[]=> .undef ::slots n (i+1) []
 | n+1,i,(j,v)::l=>match Nat.beq i j with
   | true=>v::slots n (i+1) l
   | false=> .undef ::slots n (i+1) ((j,v)::l)
def V.isDef:V→Bool
 | .undef =>false
 | _=>true
def jl (st st':St):St:=⟨M0 (st'.tm.map V.isDef) st.tm,st.so.filter (fun e=>st'.so.any fun e'=>e'.id==e.id),M0 (st'.gh.map V.isDef) st.gh,st.pre⟩
def ko (st st':St):Bool:=Nat.beq st'.tm.length st.tm.length&&Nat.beq st'.gh.length st.gh.length
theorem aq {st st':St} (hl:ko st st'=true):Bk st (jl st st'):=by
 simp only [ko,Bool.and_eq_true]at hl
 have a:=(YV (m:=st'.tm.map V.isDef) (l:=st.tm) (by simp_all) rfl).get
 have b:=(YV (m:=st'.gh.map V.isDef) (l:=st.gh) (by simp_all) rfl).get
 exact⟨a.1,a.2,fun _ he=>(List.mem_filter.1 he).1,fun hn=>List.Sublist.nodup (List.Sublist.map (fun d:Ak=>d.id) List.filter_sublist) hn,b,rfl⟩
def RU (st st':St):Option St:=match ko st st' with
 | true=>some (jl st st')
 | false=>none
theorem Bk.t {st st':St} (h:RU st st'=some st'):Bk st st':=by
 grind [RU,aq]
def M1 (o:Option (List Prop×St)) (st':St):Option (List Prop×St):=
 match o with
 | some (cs,st)=>match RU st st' with
   | some s=>some (cs,s)
   | none=>none
 | none=>none
theorem OS {o:Option (List Prop×St)} {st':St} {cs:List Prop} (h:M1 o st'=some (cs,st')): ∃ st,o=some (cs,st)∧Bk st st':=by
 unfold M1 at h
 split at h
 ·rename_i cs' st
  split at h
  ·rename_i s hs
   simp only [Option.some.injEq,Prod.mk.injEq]at h
   obtain⟨rfl,rfl⟩:=h
   exact⟨st,rfl,Bk.t hs⟩
  ·cases h
 ·cases h
section
variable {P:Program} {F:Fr} {st:St}
theorem Ah.rg {id:Nat} {l:List Oper} {c:Code} {Q:Exit→St→Prop} {ss:List Stp} {cs:List Prop} (st':St) (hr:M1 (De P F.I false l.toArray l ss st) st'=some (cs,st')) (hl:AC cs) (h:Ah P F c st' Q):Ah P F (.seq (.region id l.toArray false) c) st Q:=by
 obtain⟨st1,h1,h2⟩:=OS hr
 exact Ah.seq (Ah.reg h1 hl (Ah.less h2 h))
theorem Ah.rgQ {id:Nat} {l:List Oper} {c:Code} {Q:Exit→St→Prop} {ss:List Stp} {cs:List Prop} (st':St) (h1:P.follows .mixedOrders =true) (h2:Region.lexB .any l.toArray=true) (hr:M1 (De P F.I true l.toArray l ss st) st'=some (cs,st')) (hl:AC cs) (h:Ah P F c st' Q):Ah P F (.seq (.region id l.toArray true) c) st Q:=by
 obtain⟨st1,h3,h4⟩:=OS hr
 exact Ah.seq (Ah.regQ h1 h2 h3 hl (Ah.less h4 h))
end
abbrev vI (n:Int):V:= .c (.int .i64 n)
abbrev vB (b:Bool):V:= .c (.bool b)
abbrev vS (s:List UInt8):V:= .c (.str s)
abbrev vP (i:Ae) (o:Nat):V:= .c (.ptr i o)
abbrev vO (i:Ae):V:= .c (.osl i)
abbrev vL {α:Type} (e:α→List C) (l:List α):V:= .c (.sl l.length (l.flatMap e))
abbrev vX {α:Type} (e:α→List C) (l:List α) (o:Nat):V:= .c (.iptr (l.flatMap e) o)
abbrev vA {α:Type} (e:α→List C) (x:α):V:= .agg (e x)
abbrev bx (i:Ae) (cs:List C):Ak:=⟨i,none,cs,false⟩
abbrev LC {α:Type} (i:Ae) (E N:Nat) (e:α→List C) (l:List α):Ak:=⟨i,some (E,N,l.length),l.flatMap e,true⟩
end Go.PL
namespace Go.PL
theorem gF {p:Bool} (h:p=false):(p==false)=true:=by subst h;rfl
end Go.PL
namespace Go.PL
open Go Go.RowKit
def St.setCell (st:St) (i:Ae) (j:Nat) (c:C):St:={st with so:=st.so.map fun e=>if e.id==i&& !e.pu then⟨e.id,e.row,e.cs.set j c,false⟩else e}
def St.nilAt (st:St) (i:Ae) (j:Nat):Bool:=
 match st.look i with
 | some e=> !e.pu&&(match e.cs[j]? with
   | some .nils =>true
   | _=>false)
 | none=>false
theorem JA {w:World} {G:Au}: ∀ {cs:List C} {b o j:Nat} {c:C},Ai w G cs b o→(∀ v d,cs[j]? =some d→Ac w G d v→Ac w G c v)→Ai w G (cs.set j c) b o
 | [],_,_,_,_,h,_=>by grind
 | d::cs,b,o,0,c,h,hc=>by
   grind [Ai]
 | d::cs,b,o,j+1,c,h,hc=>by
   simp only [Ai]at h
   simp only [List.set_cons_succ,Ai]
   exact⟨h.1,JA h.2 (fun v d hd=>hc v d (by simpa using hd))⟩
theorem R.setCell {F:Fr} {st:St} {a:Act} {w:World} {G:Au} (h:R F st a w G) {i k:Ae} {j:Nat} (hn:st.nilAt i j=true) (hk:G.own k=some (.slice none 0 0)):R F (st.setCell i j (.osl k)) a w G:={
 dfr:=h.dfr,size:=h.size,slots:=h.slots,ghosts:=h.ghosts
 store:=by
  intro e' he'
  simp only [St.setCell,List.mem_map]at he'
  obtain⟨e,he,rfl⟩:=he'
  split
  ·rename_i hc
   simp only [Bool.and_eq_true,beq_iff_eq,Bool.not_eq_true']at hc
   have hE:=h.store e he
   have hee: ∃ x,st.look i=some x∧x=e:=by
    unfold St.nilAt at hn
    cases hl:st.look i with
    | none=>grind
    | some x=>
      refine⟨x,rfl,?_⟩
      obtain⟨hm,hid⟩:=AK hl
      have hp:=List.pairwise_map.1 h.nodup
      rcases List.mem_iff_getElem.1 hm with ⟨p,hp1,rfl⟩
      rcases List.mem_iff_getElem.1 he with ⟨q,hq1,rfl⟩
      grind [List.pairwise_iff_getElem]
   obtain⟨x,hx,rfl⟩:=hee
   have hnil:x.cs[j]? =some .nils :=by
    unfold St.nilAt at hn
    grind
   have hc': ∀ v d,x.cs[j]? =some d→Ac w G d v→Ac w G (.osl k) v:=by
    intro v d hd hr
    rw [hnil]at hd
    injection hd with hd;subst hd
    simp only [Ac]at hr ⊢
    subst hr
    exact⟨hk,rfl⟩
   unfold AJ at hE ⊢
   simp only
   split at hE
   ·rename_i hrn
    obtain⟨b,h1,hbx⟩:=hE
    obtain⟨T,cur,h2,h3,h4⟩:=hbx.cells (NN hx hrn)
    exact⟨b,h1, .inr ⟨T,cur,h2,by simpa using h3,JA h4 hc'⟩⟩
   ·obtain⟨hl,v,h1,h2⟩:=hE
    refine⟨by grind,v,h1,?_⟩
    rcases h2 with h2 | ⟨b,cap,cur,e1,e2,e3,e4,e5,e6,e7⟩
    ·grind
    ·exact .inr ⟨b,cap,cur,e1,e2,e3,e4,e5,e6,JA e7 hc'⟩
  ·exact h.store e he
 deep:=by
  intro e' he'
  simp only [St.setCell,List.mem_map]at he'
  obtain⟨e,he,rfl⟩:=he'
  split
  ·rename_i hc
   simp only [Bool.and_eq_true,beq_iff_eq,Bool.not_eq_true']at hc
   exact⟨(h.deep e he).1,fun hq=>absurd ((h.deep e he).2 hq).1 (by simp [hc.2])⟩
  ·exact h.deep e he
 pures:=by
  intro e' he'
  simp only [St.setCell,List.mem_map]at he'
  obtain⟨e,he,rfl⟩:=he'
  split
  ·grind
  ·exact h.pures e he
 nodup:=by
  have:((st.setCell i j (.osl k)).so.map (·.id))=st.so.map (·.id):=by
   simp only [St.setCell,List.map_map]
   apply List.map_congr_left
   grind
  rw [this];exact h.nodup
 inj:=h.inj,lt:=h.lt,new:=h.new,wr:=h.wr,avlt:=h.avlt,inv:=h.inv,avold:=h.avold,os:=h.os,tape:=h.tape,output:=h.output,hsize:=h.hsize,ext:=h.ext}
def XA (st:St) (i:Ae) (j:Nat) (k:Ae) (E n:Nat):Option St:=
 match (st.new ⟨k,some (E,n,0),[],true⟩).nilAt i j with
 | true=>some ((st.new ⟨k,some (E,n,0),[],true⟩).setCell i j (.osl k))
 | false=>none
theorem Ah.own {P:Program} {F:Fr} {c:Code} {st:St} {Q:Exit→St→Prop} (i:Ae) (j:Nat) (k:Ae) (E n:Nat) (st':St) (h:XA st i j k E n=some st') (hh:Ah P F c st' Q):Ah P F c st Q:=by
 unfold XA at h
 split at h
 ·rename_i hn
  injection h with h;subst h
  intro a w G hR
  have h1:=hR.nilRow k E n
  exact hh a w _ (h1.setCell hn (by simp [Bo]))
 ·cases h
end Go.PL
namespace Go.PL
open Go Go.RowKit
theorem aC {p:Prop} {l:List Prop} (h:p) (k:AC l):AC (p::l):=⟨h,k⟩
theorem aN:AC []:=trivial
abbrev sl (n:Nat) (l:List (Nat×V)) (so:List Ak):St:=⟨slots n 0 l,so,[],[]⟩
abbrev sg (n:Nat) (l:List (Nat×V)) (so:List Ak) (m:Nat) (g:List (Nat×V)) (p:Ae):St:=⟨slots n 0 l,so,slots m 0 g,p⟩
def JB:List Ae→Bool
 | []=>true
 | i::l=> !(l.contains i)&&JB l
theorem EP: ∀ {l:List Ae},JB l=true→l.Nodup
 | [],_=>by simp
 | i::l,h=>by
   simp only [JB,Bool.and_eq_true,Bool.not_eq_true']at h
   refine List.nodup_cons.2 ⟨fun hm=>?_,EP h.2⟩
   have:=List.contains_iff_mem.2 hm
   rw [h.1]at this;cases this
section
variable {P:Program} {F:Fr} {st:St} {id:Nat} {l:List Oper} {c:Code} {Q:Exit→St→Prop} {cs:List Prop} {K:St→Prop}
theorem Rg (ss:List Stp) (st':St) (hl:AC cs) (h:Ah P F c st' Q) (hr:M1 (De P F.I false l.toArray l ss st) st'=some (cs,st'):=by kernel_rfl):Ah P F (.seq (.region id l.toArray false) c) st Q:=Ah.rg st' hr hl h
theorem Rq (h1:P.follows .mixedOrders =true) (ss:List Stp) (st':St) (hl:AC cs) (h:Ah P F c st' Q) (h2:Region.lexB .any l.toArray=true:=by kernel_rfl) (hr:M1 (De P F.I true l.toArray l ss st) st'=some (cs,st'):=by kernel_rfl):Ah P F (.seq (.region id l.toArray true) c) st Q:=Ah.rgQ st' h1 h2 hr hl h
theorem Re (ss:List Stp) (st':St) (hl:AC cs) (h:Q .normal st') (hr:De P F.I false l.toArray l ss st=some (cs,st'):=by kernel_rfl):Ah P F (.region id l.toArray false) st Q:=Ah.reg hr hl h
theorem Rp {I:World→Prop} {ops:Array Oper} (n:Nat) (ss:List Stp) (st':St) (hc:AC cs) (hK:Dd P I ops (l.drop n) st' K) (h:De P I false ops (l.take n) ss st=some (cs,st'):=by kernel_rfl):Dd P I ops l st K:=Run.part n st' h hc hK
theorem Rw {I:World→Prop} {ops:Array Oper} (ss:List Stp) (st':St) (hc:AC cs) (hK:K st') (h:De P I false ops l ss st=some (cs,st'):=by kernel_rfl):Dd P I ops l st K:=Run.whole st' h hc hK
theorem Ow (i:Ae) (j:Nat) (k:Ae) (E n:Nat) (st':St) (hh:Ah P F c st' Q) (h:XA st i j k E n=some st':=by kernel_rfl):Ah P F c st Q:=Ah.own i j k E n st' h hh
theorem bE {rs:List ResultVar} {e:Exit} {r':V} (v r:V) (hr:r=r') (he:e= .normal ∨e= .ret :=by first | exact .inr rfl | exact .inl rfl) (h:cG P st rs=some v:=by kernel_rfl) (hs:cH st rs v=r:=by kernel_rfl) (hp:r.pure=true:=by kernel_rfl):
 (e= .normal ∨e= .ret)∧(Cp P st rs).1∧(Cp P st rs).2.pure =true∧(Cp P st rs).2=r':=YU he h hs hp hr
theorem bQ {rs:List ResultVar} {e:Exit} {r':V} (v:V) (hr:v=r') (he:e= .normal ∨e= .ret :=by first | exact .inr rfl | exact .inl rfl) (h:cG P st rs=some v:=by kernel_rfl) (hs:cH st rs v=v:=by kernel_rfl) (hp:v.pure=true:=by kernel_rfl):
 (e= .normal ∨e= .ret)∧(Cp P st rs).1∧(Cp P st rs).2.pure =true∧(Cp P st rs).2=r':=YU he h hs hp hr
end
theorem Tn {K:St→Prop} {Q:Exit→St→Prop} {st:St} (h:K st):CP K Q .normal st:=h
theorem Tr {K:St→Prop} {Q:Exit→St→Prop} {st:St} (h:Q .ret st):CP K Q .ret st:=h
theorem gi (g:Bool):g=true→g=true:=id
theorem g0 (g:Bool):g=true→AC []:=fun _=>trivial
theorem g1 (g:Bool):g=true→AC [g=true→g=true]:=fun _=>⟨id,trivial⟩
theorem g2 (g:Bool):g=true→AC [g=true→g=true,g=true→g=true]:=fun _=>⟨id,id,trivial⟩
section
variable {l:List Prop}
theorem aB {e b:Bool} (h:some e=some b) (k:AC l):AC ((vB e=vB b)::l):=⟨congrArg vB (sI h),k⟩
theorem aF (b:Bool) (k:AC l):AC ((b=false→(b==false)=true)::l):=⟨fun q=>gF q,k⟩
theorem aG (g:Bool) (k:AC l):AC ((g=true→AC [g=true→g=true])::l):=⟨g1 g,k⟩
end
section
variable {α:Type} [Inhabited α] {g:Bool} {o:Option α} {x:α} {p:Prop}
theorem c0 (h:gd g o=some x) (k:o=some x→p):g=true→AC []∧p:=fun hg=>⟨trivial,k (Xy h hg)⟩
theorem c1 (h:gd g o=some x) (k:o=some x→p):g=true→AC [g=true→g=true]∧p:=fun hg=>⟨⟨id,trivial⟩,k (Xy h hg)⟩
theorem c2 (h:gd g o=some x) (k:o=some x→p):g=true→AC [g=true→g=true,g=true→g=true]∧p:=fun hg=>⟨⟨id,id,trivial⟩,k (Xy h hg)⟩
theorem c3 (h:gd g o=some x) (k:o=some x→p):g=true→AC [g=true→g=true,g=true→g=true,g=true→g=true]∧p:=fun hg=>⟨⟨id,id,id,trivial⟩,k (Xy h hg)⟩
end
theorem kq (k:IntKind): ∀ x,(eI k x).length =1:=fun _=>rfl
theorem oT: ∀ x,(eS x).length =1:=fun _=>rfl
section
variable {α:Type} [Inhabited α] {l m r:List α} {i:Int} {x:α} {e:α→List C} {N:Nat}
theorem oa (hx:Gk l i=some x) (hN: ∀ y,(e y).length =N) (o n:Nat) (ag:Bool) (v:V) (hv:toV ag o n (e x)=v:=by kernel_rfl) (ho:Nat.ble (o+n) N=true:=by kernel_rfl) (h0:(ag||Nat.blt 0 n)=true:=by kernel_rfl):
 i.toNat*N+o+n≤(l.flatMap e).length ∧toV ag (i.toNat*N+o) n (l.flatMap e)=v:=
 TH hx hN rfl (by simp_all) (by simp_all) hv
theorem oU (hx:Gk l i=some x) (hN: ∀ y,(e y).length =N) (cs:List C) (b m o n:Nat) (ag:Bool) (v:V) (hc:cs=cs.take b++(l.flatMap e++cs.drop m):=by kernel_rfl) (hb:(cs.take b).length =b:=by kernel_rfl) (hv:toV ag o n (e x)=v:=by kernel_rfl) (ho:Nat.ble (o+n) N=true:=by kernel_rfl) (h0:(ag||Nat.blt 0 n)=true:=by kernel_rfl):
 b+i.toNat*N+o+n≤cs.length∧toV ag (b+i.toNat*N+o) n cs=v:=
 Xz hc hb hx hN (Nat.add_assoc _ _ _) (Nat.le_of_ble_eq_true ho) (by simpa using h0) hv
omit [Inhabited α] in
theorem mB {b:Nat} (h:U3 b l m=some r) (e:α→List C):l.length+m.length=r.length∧l.flatMap e++m.flatMap e=r.flatMap e:=(by grind [Vz])
end
end Go.PL
