/- The pure logic: PlO, PlP, PlQ, PlR, PlU, PlW, PlS, PlT, PlV, PlX, PlY, PlZ, PlPa, PlPb, PlPc, PlPl, PlPq, PlPe, PlPf, PlPg, PlPh, PlPi, PlPj. -/
import Derived.Test.YtelbpfkjhndccaaGreatDoorPlAtoPlN
import Derived.LoopN
import Derived.ProofKit
import Derived.OpenShut
import Derived.Handy
import Derived.Lay
import Derived.LaidSub
import Derived.SevenTiedAt
import Derived.Lib.LaidTab
import Derived.Lib.ItoaNum
import Derived.Lib.AtoiAll
import Derived.Lib.Bytealg
import Derived.Lib.ConvBytes
import Derived.Lib.AtoiErrMem
import Derived.Laws.Cover3
namespace Go.PL
open Go Go.RowKit
def Xp (P:Program) (st:St):ResultVar→Prop×V
 | .tmp t=>(True,Dr st (st.get t))
 | .cell t T=>let r:=MU P T st (st.get t)
   (r.1,Dr st r.2)
def M1 (P:Program) (st:St):List ResultVar→Prop×List V
 | []=>(True,[])
 | x::xs=>((Xp P st x).1∧(M1 P st xs).1,(Xp P st x).2::(M1 P st xs).2)
def I6 (P:Program) (st:St):List ResultVar→Prop×V
 | [x]=>Xp P st x
 | xs=>((M1 P st xs).1, .tup (M1 P st xs).2)
def kJ (P:Program) (fn:Func) (Q:V→Prop):Exit→St→Prop
 | .normal,st=>(I6 P st fn.results.toList).1∧(I6 P st fn.results.toList).2.pure =true∧Q (I6 P st fn.results.toList).2
 | .ret,st=>(I6 P st fn.results.toList).1∧(I6 P st fn.results.toList).2.pure =true∧Q (I6 P st fn.results.toList).2
 | _,_=>False
def St.start (args:List V) (n:Nat):St:={tm:=args++List.replicate (n - args.length) .undef,so:=[]}
theorem H7 {w:World} {G:B4}: ∀ {xs:List V} {vs:List Value},Bf w G xs vs→xs.length=vs.length
 | [],vs,h=>by simp only [Bf]at h;subst h;rfl
 | x::xs,vs,h=>by
   simp only [Bf]at h
   obtain⟨v,r,rfl,_,h2⟩:=h
   simp [H7 h2]
def Tl (I:World→Prop):Prop:= ∀ w w':World,I w→w.heap.size≤w'.heap.size→(∀ b,b<w.heap.size→w'.heap[b]? =w.heap[b]?)→I w'
theorem R.start {I:World→Prop} (hst:Tl I) {w:World} (hI:I w) {vs:Array Value} {av:Nat→Prop} (hav: ∀ b,av b→b<w.heap.size) {args:List V} (h:Bf w (im av) args vs.toList) (n:Nat):
 R ⟨w,av,fun _=>False,I,[]⟩ (St.start args n) {tmps:=vs++Array.replicate (n - vs.size) Go.undef,defers:=[]} w (im av):=by
 have hl:=H7 h
 have hl':args.length=vs.size:=by simpa using hl
 exact {
  dfr:=rfl
  size:=by simp [St.start,hl']
  slots:=by
   intro i
   simp only [St.start,List.getD_eq_getElem?_getD,Array.getD_eq_getD_getElem?]
   by_cases hi:i<args.length
   ·obtain⟨v,q1,q2⟩:=Ox h i hi
    have e1:(vs++Array.replicate (n - vs.size) Go.undef)[i]? =some v:=by
     rw [Array.getElem?_append_left (by omega)];simpa using q1
    rw [e1,List.getElem?_append_left hi]
    simpa [List.getD_eq_getElem?_getD] using q2
   ·rw [List.getElem?_append_right (by omega),List.getElem?_replicate]
    split<;>simp [Ap]
  ghosts:=by simp [St.start,Bf]
  store:=by simp [St.start]
  pures:=by simp [St.start]
  nodup:=by simp [St.start]
  inj:=by simp [im]
  lt:=by simp [im]
  new:=by simp [im]
  wr:=by simp [im]
  avlt:=hav
  inv:=fun w' h1 h2=>hst w w' hI h1 (fun b hb=>h2 b hb (by simp))
  avold:=by simp
  os:=rfl,tape:=rfl,output:=rfl,hsize:=Nat.le_refl _,ext:=fun _ _ _=>rfl}
section
variable {P:Program} {F:Fr} {st:St} {a:Act} {w:World} {G:B4}
theorem R.out (h:R F st a w G) (hold: ∀ b, ¬F.old b) {x:V} {v:Value} (hp:(Dr st x).pure =true) (hr:Ap w G x v):Ap w (im F.av) (Dr st x) v:=by
 refine X8 h (fun b _ hb=>(h.wr b).2 (.inl hb)) (fun id _ _ b hb hav=>?_) hp hr
 rcases h.new id b hb with q | q
 ·have:=h.avlt b hav;omega
 ·exact hold b q
theorem Yb {t:TypeId} {x:V} {u:Value} (hx:Ap w G x u) (hs:(MU P t st x).1): ∃ p,u= .pointer (some p):=by
 unfold MU at hs
 split at hs
 ·simp only [Ap,Ax]at hx
  obtain⟨b,_,rfl⟩:=hx
  exact⟨_,rfl⟩
 ·simp only [Ap,Ax]at hx
  obtain⟨_,b,o,rfl,_⟩:=hx
  exact⟨_,rfl⟩
 ·exact hs.elim
def M2 (tmps:Array Value):ResultVar→Sem Value
 | .tmp t=>pure (tmps.getD t Go.undef)
 | .cell a t=>do loadVar t (←asAddr (tmps.getD a Go.undef))
theorem VY (h:R F st a w G) (hold: ∀ b, ¬F.old b) {x:ResultVar} (hs:(Xp P st x).1) (hp:(Xp P st x).2.pure =true):
 ∃ v,(M2 a.tmps x).run P w= .ok v w∧Ap w (im F.av) (Xp P st x).2 v:=by
 cases x with
 | tmp t=>exact⟨_,rfl,h.out hold hp (h.slots t)⟩
 | cell t T=>
   simp only [Xp]at hs hp ⊢
   obtain⟨v,q1,q2⟩:=PR (P:=P) h (h.slots t) hs
   obtain⟨p,hptr⟩:=Yb (h.slots t) hs
   refine⟨v,?_,h.out hold hp q1⟩
   have:=q2 w (KS.refl w)
   rw [hptr]at this
   simp only [M2,hptr,asAddr,Sem.run_bind,Sem.run_pure,Result.andThen_ok]
   simpa [Instr.loadAt,Instr.sureAddr] using this
theorem Uo (h:R F st a w G) (hold: ∀ b, ¬F.old b): ∀ {xs:List ResultVar},(M1 P st xs).1→FM (M1 P st xs).2=true→
 ∃ vs,(xs.mapM (M2 a.tmps)).run P w= .ok vs w∧Bf w (im F.av) (M1 P st xs).2 vs
 | [],_,_=>⟨[],by simp,by simp [M1,Bf]⟩
 | x::xs,hs,hp=>by
   simp only [M1]at hs hp ⊢
   simp only [FM,Bool.and_eq_true]at hp
   obtain⟨v,q1,q2⟩:=VY h hold hs.1 hp.1
   obtain⟨vs,k1,k2⟩:=Uo h hold hs.2 hp.2
   exact⟨v::vs,by simp [List.mapM_cons,q1,k1],by simp only [Bf];exact⟨v,vs,rfl,q2,k2⟩⟩
theorem JU {fn:Func} {tmps:Array Value} {vs:List Value} (h:(fn.results.toList.mapM (M2 tmps)).run P w= .ok vs w):
 (results fn tmps).run P w= .ok (match vs with | [v]=>v | vs=> .tuple vs.toArray) w:=by
 have e:fn.results.mapM (M2 tmps)=List.toArray<$>fn.results.toList.mapM (M2 tmps):=by
  obtain⟨l,hl⟩: ∃ l:List ResultVar,fn.results=l.toArray:=⟨fn.results.toList,by simp⟩
  rw [hl,List.mapM_toArray]
 have e2:results fn tmps=(do
  let vs ←fn.results.mapM (M2 tmps)
  pure (if h:vs.size=1 then vs[0]else .tuple vs)):=by
  unfold results
  congr 1
  all_goals (try (congr 1;funext x;cases x<;>rfl))
 rw [e2,e]
 simp only [Sem.run_bind,Sem.run_map,h,Result.andThen_ok]
 match vs with
 | []=>simp
 | [v]=>simp
 | v::u::vs=>simp
theorem eF (h:R F st a w G) (hold: ∀ b, ¬F.old b) {fn:Func} (hs:(I6 P st fn.results.toList).1) (hp:(I6 P st fn.results.toList).2.pure =true):
 ∃ v,(results fn a.tmps).run P w= .ok v w∧Ap w (im F.av) (I6 P st fn.results.toList).2 v:=by
 unfold I6 at *
 split at hs
 ·rename_i x hx
  simp only [hx]at hp ⊢
  obtain⟨v,q1,q2⟩:=VY h hold hs hp
  exact⟨v,by have:=JU (P:=P) (w:=w) (fn:=fn) (tmps:=a.tmps) (vs:=[v]) (by rw [hx];simp [q1]);simpa using this,q2⟩
 ·rename_i xs hne
  split at hp
  ·rename_i x hx;exact absurd hx (hne x)
  ·obtain⟨vs,q1,q2⟩:=Uo h hold hs (by simpa only [V.pure] using hp)
   refine⟨.tuple vs.toArray,?_,?_⟩
   ·have:=JU (P:=P) (w:=w) (fn:=fn) (tmps:=a.tmps) q1
    rw [this]
    have hl:=H7 q2
    match hvs:vs with
    | []=>rfl
    | [v]=>
      exfalso
      have hxl: ∀ xs:List ResultVar,(M1 P st xs).2.length =xs.length:=by
       intro xs;induction xs with
       | nil=>rfl
       | cons x xs ih=>simp [M1,ih]
      rw [hxl]at hl
      match hr:fn.results.toList,hl with
      | [x],_=>exact hne x hr
    | v::u::vs=>rfl
   ·simp only [Ap];exact⟨_,rfl,by simpa using q2⟩
theorem R.below (h:R F st a w G) (hold: ∀ b, ¬F.old b):Below F.w0.heap.size F.w0 w:=⟨h.os,h.tape,h.output,h.hsize,fun b hb=>h.ext b hb (hold b)⟩
end
theorem Af.of {P:Program} {I:World→Prop} (hst:Tl I) {f:FuncId} {fn:Func} {c:Code} {args:List V} {Q:V→Prop} (hent:PL.ent P f=true) (hf:P.funcs[f]? =some fn) (hb:fn.body=some c)
 (h: ∀ F,F.I=I→Ak P F c (St.start args fn.ntmps) (kJ P fn Q)):Af P I f args Q:=by
 refine⟨hent,fun w vs av hI hav hargs=>calls_of_wp hf hb ?_⟩
 have hR:=R.start hst hI hav hargs fn.ntmps
 refine Code.wp_mono (fun e a' w' ⟨st',G',q,hR'⟩=>?_) (h _ rfl _ _ _ hR)
 have fin:(I6 P st' fn.results.toList).1∧(I6 P st' fn.results.toList).2.pure =true∧Q (I6 P st' fn.results.toList).2→
  a'.defers=[]∧ ∃ v,(results fn a'.tmps).run P w'= .ok v w'∧(fun(e:Ending) w''=> ∃ v r,e= .returned v∧Q r∧r.pure=true∧Ap w'' (im av) r v∧Below w.heap.size w w'') (.returned v) w':=by
  intro ⟨q1,q2,q3⟩
  obtain⟨v,k1,k2⟩:=eF hR' (fun _ hx=>hx) (fn:=fn) q1 q2
  exact⟨hR'.dfr,v,k1,v,_,rfl,q3,q2,k2,hR'.below (fun _ hx=>hx)⟩
 cases e<;>simp only [kJ]at q<;>first | exact fin q | exact q.elim
end Go.PL
namespace Go.PL
open Go Go.RowKit
section
variable {P:Program} {I:World→Prop} {F:Fr} {ops:Array Oper} {rest:List Oper} {st st1:St} {d:Option Nat} {op:Op} {ty:TypeId} {pos:String} {af:Array Edge}
theorem Ak.run {id:Nat} {Q:Exit→St→Prop} (h:Ct P F.I ops ops.toList st (Q .normal)):Ak P F (.region id ops false) st Q:=
 Ak.region h
variable {K:St→Prop}
theorem Run.nil (h:K st):Ct P I ops [] st K:=h
theorem RunQ.nil (h:K st):LD P I ops [] st K:=h
theorem Ca.normal {Q:Exit→St→Prop} (h:K st):Ca K Q .normal st:=h
theorem Ca.ret {Q:Exit→St→Prop} (h:Q .ret st):Ca K Q .ret st:=h
theorem Ca.exit {Q:Exit→St→Prop} {i:Nat} (h:Q (.exit i) st):Ca K Q (.exit i) st:=h
theorem BP.normal {Q:Exit→St→Prop} {i:Nat} (h:Q .normal st):BP i Q .normal st:=h
theorem BP.ret {Q:Exit→St→Prop} {i:Nat} (h:Q .ret st):BP i Q .ret st:=h
theorem BP.out {Q:Exit→St→Prop} {i:Nat} (h:Q .normal st):BP i Q (.exit i) st:=by simp only [BP,if_true];exact h
theorem BP.on {Q:Exit→St→Prop} {i j:Nat} (hj:(j==i)=false) (h:Q (.exit j) st):BP i Q (.exit j) st:=by
 have: ¬j=i:=by simpa using hj
 simp only [BP,this,if_false];exact h
theorem Run.rd {s:Prop} {v:V} (hk:DH op= .rd) (hv:Mm P st true op=(s,v)) (hs:s) (hp:st.put d v=st1) (h:Ct P I ops rest st1 K):Ct P I ops (⟨d,op,ty,pos,af,none⟩::rest) st K:=by
 simp only [Ct,kr,kq,hk,hv,hp]
 exact .inr ⟨hs,h⟩
theorem RunQ.rd {s:Prop} {v:V} (hk:DH op= .rd) (hv:Mm P st true op=(s,v)) (hs:s) (hp:st.put d v=st1) (h:LD P I ops rest st1 K):LD P I ops (⟨d,op,ty,pos,af,none⟩::rest) st K:=by
 simp only [LD,qt,qr,hk,hv,hp]
 exact⟨hs,h⟩
theorem Run.ef {s:Prop} (hk:DH op= .ef) (hv:PL.ef P st ⟨d,op,ty,pos,af,none⟩=(s,st1)) (hs:s) (h:Ct P I ops rest st1 K):Ct P I ops (⟨d,op,ty,pos,af,none⟩::rest) st K:=by
 simp only [Ct,kr,kq,hk,hv]
 exact .inr ⟨hs,h⟩
theorem Run.cut {x:Operand} {s:Prop} {v:V} {st0:St} (hk:DH op= .cut x) (hc:st.cutAt true x=st0) (hv:Mm P st0 true op=(s,v)) (hs:s) (hp:st0.put d v=st1) (h:Ct P I ops rest st1 K):
 Ct P I ops (⟨d,op,ty,pos,af,none⟩::rest) st K:=by
 simp only [Ct,kr,kq,hk,hc,hv,hp]
 exact .inr ⟨hs,h⟩
theorem RunQ.cut {x:Operand} {s:Prop} {v:V} (hk:DH op= .cut x) (hv:Mm P st true op=(s,v)) (hs:s) (hp:st.put d v=st1) (h:LD P I ops rest st1 K):
 LD P I ops (⟨d,op,ty,pos,af,none⟩::rest) st K:=by
 simp only [LD,qt,qr,hk,hv,hp]
 exact⟨hs,h⟩
theorem Run.call {f:FuncId} {xs:List Operand} {s:Prop} {vs us:List V} {r:V} (hk:DH op= .call f xs) (ha:st.args true xs=(s,vs)) (hs:s) (hu:vs.map (Dr st)=us) (hpu:FM us=true)
 (hc:Af P I f us (· =r)) (hf:r.flat=true∨(FY vs).length ≤1∧ ∀ id∈FY vs,st.okFrz id=true) (hp:st.after (FY vs) d r=st1) (h:Ct P I ops rest st1 K):
 Ct P I ops (⟨d,op,ty,pos,af,none⟩::rest) st K:=by
 simp only [Ct,kr,kq,hk,ha,hu]
 refine .inr ⟨hs,hpu,_,hc,fun r' hr'=>?_⟩
 subst hr'
 rw [hp]
 exact⟨hf,h⟩
theorem RunQ.call {f:FuncId} {xs:List Operand} {s:Prop} {vs us:List V} {r:V} (hk:DH op= .call f xs) (ha:st.args true xs=(s,vs)) (hs:s) (hu:vs.map (Dr st)=us) (hpu:FM us=true)
 (hc:Af P I f us (· =r)) (hf:r.flat=true) (hp:st.put d r=st1) (h:LD P I ops rest st1 K):
 LD P I ops (⟨d,op,ty,pos,af,none⟩::rest) st K:=by
 simp only [LD,qt,qr,hk,ha,hu]
 refine⟨hs,hpu,r,hf,hc,?_⟩
 rw [hp]
 exact h
variable {j:Nat} {want g:Bool}
theorem Af.body (hsta:Tl I) {f:FuncId} {fn:Func} {c:Code} {args:List V} {Q:V→Prop} {n:Nat} {rs:List ResultVar} (hent:PL.ent P f=true) (hf:P.funcs[f]? =some fn) (hb:fn.body=some c) (hn:fn.ntmps=n) (hr:fn.results=rs.toArray)
 (hst:St.start args n=st)
 (h: ∀ w0 av old gv,Ak P ⟨w0,av,old,I,gv⟩ c st (fun e st'=>(e= .normal ∨e= .ret)∧(I6 P st' rs).1∧(I6 P st' rs).2.pure =true∧Q (I6 P st' rs).2)):Af P I f args Q:=by
 refine Af.of hsta hent hf hb (fun F hF=>?_)
 obtain⟨w0,av,old,I',gv⟩:=F
 simp only at hF;subst hF
 rw [hn,hst]
 refine(h w0 av old gv).mono fun e st' ⟨he,q⟩=>?_
 have:fn.results.toList=rs:=by rw [hr]
 rcases he with rfl | rfl<;>simp only [kJ,this]<;>exact q
end
end Go.PL
namespace Go.PL
open Go Go.RowKit
attribute [go_sem] DH Mm rd Sc Y1 St.arg St.args St.ev St.get Vf PQ MT gG Tg YT Ud Fm PT PU Ov po qn qo I5 YZ
 St.put St.after St.look St.setCs St.cutAt St.freeze St.new St.kill C3.kill St.start St.parts
 MU O6 HL PW HM PX O8 Xm iJ iK O9 PV NJ O7 VQ PH V.cells P1 kH NL Uj Uk GE PL.ef X4
 Mn Ro Dr Xo qp FY Mj Oy C.men JE V.men UF C.flat V.flat VR C.pure Bw V.pure FM I6 Xp M1 Rf VL VM St.okFrz
attribute [go_sem] List.getD_cons_zero List.getD_cons_succ List.set_cons_zero List.set_cons_succ List.map_cons List.map_nil List.filter_cons List.filter_nil List.find?_cons List.find?_nil
 List.cons_append List.nil_append List.length_cons List.length_nil List.replicate_succ List.replicate_zero List.take_succ_cons List.take_zero List.drop_succ_cons List.drop_zero List.flatMap_cons List.flatMap_nil List.append_nil
 List.all_cons List.all_nil Bool.and_true Bool.true_and Bool.and_false Bool.false_and Bool.or_false Bool.or_true Bool.false_or Bool.true_or
 beq_self_eq_true if_true if_false true_and and_true Option.map_some Option.map_none List.getElem?_cons_zero List.getElem?_cons_succ
theorem qu {α:Type} (a b:α):(if true=true then a else b)=a:=rfl
theorem qv {α:Type} (a b:α):(if false=true then a else b)=b:=rfl
theorem sn:(true=true)=True:=by simp
theorem sq:(false=true)=False:=by simp
theorem qw (p:Prop):(true=true→p)=p:=by simp
theorem ite_ff' (b:Bool):(if b then true else false)=b:=by cases b<;>rfl
theorem beq_true' (b:Bool):(b==true)=b:=by cases b<;>rfl
theorem beq_false' (b:Bool):(b==false)= !b:=by cases b<;>rfl
theorem nD (b c:Bool):(if b then c else false)=(b&&c):=by cases b<;>rfl
theorem qx (b c:Bool):(if b then true else c)=(b||c):=by cases b<;>rfl
attribute [go_sem] qu qv sn sq qw ite_ff' beq_true' beq_false' nD qx Bool.not_true Bool.not_false Bool.not_not
end Go.PL
namespace Go.PL
open Go Go.RowKit
def PI:List V→List V→Prop
 | [],[]=>True
 | a::l,b::m=>(b= .undef ∨b=a)∧PI l m
 | _,_=>False
theorem PI.nil:PI [] []:=trivial
theorem PI.skip {a:V} {l m:List V} (h:PI l m):PI (a::l) (.undef ::m):=⟨.inl rfl,h⟩
theorem PI.get: ∀ {l m:List V},PI l m→m.length=l.length∧ ∀ i,m.getD i .undef = .undef ∨m.getD i .undef =l.getD i .undef
 | [],[],_=>⟨rfl,fun _=> .inr rfl⟩
 | a::l,b::m,h=>by
   obtain⟨h1,h2⟩:=h
   obtain⟨q1,q2⟩:=PI.get h2
   refine⟨by simp [q1],fun i=>?_⟩
   cases i with
   | zero=>simpa using h1
   | succ i=>simpa using q2 i
 | [],_::_,h=>h.elim
 | _::_,[],h=>h.elim
theorem D4.of {t t' g g':List V} {s s':List C3} {p:CI} (h:PI t t') (hg:PI g g') (hs:s'.Sublist s):D4 ⟨t,s,g,p⟩ ⟨t',s',g',p⟩:=⟨h.get.1,h.get.2,fun _ he=>hs.subset he,fun hn=>List.Sublist.nodup (List.Sublist.map (fun d:C3=>d.id) hs) hn,hg.get,rfl⟩
theorem lessE.nil {s:List C3}:([]:List C3).Sublist s:=List.nil_sublist _
theorem lessE.skip {e:C3} {s s':List C3} (hs:s'.Sublist s):s'.Sublist (e::s):=hs.cons _
theorem nE (a b:Nat):(([a]:List Nat)==[b])=(a==b):=by simp [List.cons_beq_cons]
theorem nF (a b:Nat):(([a]:List Nat) != [b])=(a != b):=by simp [bne,List.cons_beq_cons]
theorem kK (a b c d:Nat):(([a,c]:List Nat)==[b,d])=(a==b&&c==d):=by simp [List.cons_beq_cons]
theorem qy (a b:Nat):(([a]:List Nat)=[b])=(a=b):=by simp
theorem aV (z:List C):Fa z 0=[]:=by simp [Fa]
theorem aW (z:List C) (k:Nat):Fa z (k+1)=z++Fa z k:=by
 unfold Fa
 have e:(k+1)*z.length=z.length+k*z.length:=by rw [Nat.add_mul,Nat.one_mul,Nat.add_comm]
 rw [e,List.range_add,List.map_append]
 congr 1
 ·apply List.ext_getElem<;>simp
  intro i h
  rw [Nat.mod_eq_of_lt h]
  simp [h]
 ·rw [List.map_map]
  apply List.map_congr_left
  intro i _
  simp [Function.comp]
theorem Y6 (k:IntKind) (l:List Int):Bw (l.map (C.int k))=true:=QS _ (fun _=>rfl) l
theorem Y7 (l:List (List UInt8)):Bw (l.map C.str)=true:=QS _ (fun _=>rfl) l
theorem Xq (l:List Bool):Bw (l.map C.bool)=true:=QS _ (fun _=>rfl) l
theorem P5 {g:C→C} (hg: ∀ c:C,c.pure=true→g c=c): ∀ {l:List C},Bw l=true→l.map g=l
 | [],_=>rfl
 | c::l,h=>by
   simp only [Bw,Bool.and_eq_true]at h
   rw [List.map_cons,hg c h.1,P5 hg h.2]
theorem eG (id:CI) {c:C} (h:c.pure=true):Mj id c=c:=by simp [Mj,Se id c h]
theorem eH {l:List C} (id:CI) (h:Bw l=true):l.map (Mj id)=l:=P5 (fun _ hc=>eG id hc) h
theorem iY {id:CI} {len:Nat} {cs:List C} {c:C} (h:c.pure=true):Rf id len cs c=c:=by
 cases c<;>simp_all [Rf,C.pure,DE]
theorem iZ {id:CI} {len:Nat} {cs:List C} {l:List C} (h:Bw l=true):l.map (Rf id len cs)=l:=P5 (fun _ hc=>iY hc) h
theorem ja {c:C} (h:c.pure=true):Xo c=[]:=by cases c<;>simp_all [Xo,C.pure]
theorem Yc: ∀ {l:List C},Bw l=true→l.flatMap Xo=[]
 | [],_=>rfl
 | c::l,h=>by
   simp only [Bw,Bool.and_eq_true]at h
   rw [List.flatMap_cons,ja h.1,Yc h.2];rfl
attribute [go_sem] Kd Y6 Y7 Xq eH iZ Yc DE
attribute [go_sem] nE nF kK qy aV aW Nat.reduceLeDiff Nat.reduceLT Nat.le_refl Nat.reduceBEq Nat.reduceBNe Nat.reduceMul Nat.reduceAdd Nat.reduceSub
end Go.PL
namespace Go.PL
open Go Go.RowKit
section
variable {P:Program} {F:Fr} {st:St} {c:Code} {Q:Exit→St→Prop}
def Y8 (P:Program) (F:Fr) (c:Code) (Q:Exit→St→Prop):Nat→St→Prop
 | 0,_=>False
 | n+1,st=>Ak P F c st (Ca (Y8 P F c Q n) Q)
theorem Y8.step {n:Nat} (h:Ak P F c st (Ca (Y8 P F c Q n) Q)):Y8 P F c Q (n+1) st:=h
end
end Go.PL
namespace Go.PL
open Go Go.RowKit
def Y9 (st:St) (x:Operand):Option (FuncId×List C):=
 match st.ev x with
 | .c (.fn f)=>some (f,[])
 | .c (.clo f cs)=>some (f,cs)
 | _=>none
def St.enter (st:St) (k:Nat) (args:List V) (n:Nat):St:=⟨args++List.replicate (n - args.length) .undef,st.so,st.tm++st.gh,k::st.pre⟩
def St.back (st:St) (m:Nat) (pre:CI) (d:Option Nat) (r:V):St:=(⟨st.gh.take m,st.so,st.gh.drop m,pre⟩:St).put d r
def Xr (P:Program) (st:St):ResultVar→Prop×V
 | .tmp t=>(True,st.get t)
 | .cell t T=>MU P T st (st.get t)
def LE (P:Program) (st:St):List ResultVar→Prop×List V
 | []=>(True,[])
 | x::xs=>((Xr P st x).1∧(LE P st xs).1,(Xr P st x).2::(LE P st xs).2)
def I7 (P:Program) (st:St):List ResultVar→Prop×V
 | [x]=>Xr P st x
 | xs=>((LE P st xs).1, .tup (LE P st xs).2)
section
variable {P:Program} {F:Fr} {st:St} {a:Act} {w:World} {G:B4}
theorem VZ (h:R F st a w G) {x:ResultVar} (hs:(Xr P st x).1): ∃ v,(M2 a.tmps x).run P w= .ok v w∧Ap w G (Xr P st x).2 v:=by
 cases x with
 | tmp t=>exact⟨_,rfl,h.slots t⟩
 | cell t T=>
   simp only [Xr]at hs ⊢
   obtain⟨v,q1,q2⟩:=PR (P:=P) h (h.slots t) hs
   obtain⟨p,hptr⟩:=Yb (h.slots t) hs
   refine⟨v,?_,q1⟩
   have:=q2 w (KS.refl w)
   rw [hptr]at this
   simp only [M2,hptr,asAddr,Sem.run_bind,Sem.run_pure,Result.andThen_ok]
   simpa [Instr.loadAt,Instr.sureAddr] using this
theorem Up (h:R F st a w G): ∀ {xs:List ResultVar},(LE P st xs).1→ ∃ vs,(xs.mapM (M2 a.tmps)).run P w= .ok vs w∧Bf w G (LE P st xs).2 vs
 | [],_=>⟨[],by simp,by simp [LE,Bf]⟩
 | x::xs,hs=>by
   simp only [LE]at hs ⊢
   obtain⟨v,q1,q2⟩:=VZ h hs.1
   obtain⟨vs,k1,k2⟩:=Up h hs.2
   exact⟨v::vs,by simp [List.mapM_cons,q1,k1],by simp only [Bf];exact⟨v,vs,rfl,q2,k2⟩⟩
theorem jb {xs:List ResultVar}:(LE P st xs).2.length =xs.length:=by
 induction xs with
 | nil=>rfl
 | cons x xs ih=>simp [LE,ih]
theorem Sp (h:R F st a w G) {fn:Func} (hs:(I7 P st fn.results.toList).1): ∃ v,(results fn a.tmps).run P w= .ok v w∧Ap w G (I7 P st fn.results.toList).2 v:=by
 generalize hx:fn.results.toList=xs at hs ⊢
 match xs,hx,hs with
 | [x],hx,hs=>
   simp only [I7]at hs ⊢
   obtain⟨v,q1,q2⟩:=VZ h hs
   exact⟨v,by have:=JU (P:=P) (w:=w) (fn:=fn) (tmps:=a.tmps) (vs:=[v]) (by rw [hx];simp [q1]);simpa using this,q2⟩
 | [],hx,hs=>
   refine⟨.tuple #[],?_,by simp [I7,LE,Ap,Bf]⟩
   have:=JU (P:=P) (w:=w) (fn:=fn) (tmps:=a.tmps) (vs:=[]) (by rw [hx];simp)
   simpa using this
 | x::y::xs,hx,hs=>
   simp only [I7]at hs ⊢
   obtain⟨vs,q1,q2⟩:=Up h hs
   refine⟨.tuple vs.toArray,?_,by simp only [Ap];exact⟨_,rfl,by simpa using q2⟩⟩
   have:=JU (P:=P) (w:=w) (fn:=fn) (tmps:=a.tmps) (by rw [hx];exact q1)
   rw [this]
   have hl:=H7 q2
   rw [jb]at hl
   match vs,hl with
   | v::u::vs,_=>rfl
theorem Mo {w:World} {G:B4}: ∀ {xs ys:List V} {us vs:List Value},Bf w G xs us→Bf w G ys vs→Bf w G (xs++ys) (us++vs)
 | [],_,us,_,h,h'=>by simp only [Bf]at h;subst h;simpa using h'
 | x::xs,ys,us,vs,h,h'=>by
   simp only [Bf]at h
   obtain⟨v,r,rfl,h1,h2⟩:=h
   simp only [List.cons_append,Bf]
   exact⟨v,r++vs,rfl,h1,Mo h2 h'⟩
theorem Uq {w:World} {G:B4}: ∀ {xs:List V} {us vs:List Value},Bf w G xs (us++vs)→Bf w G (xs.take us.length) us∧Bf w G (xs.drop us.length) vs
 | xs,[],vs,h=>⟨by simp [Bf],by simpa using h⟩
 | [],u::us,vs,h=>by simp [Bf]at h
 | x::xs,u::us,vs,h=>by
   simp only [List.cons_append,Bf]at h
   obtain⟨v,r,e,h1,h2⟩:=h
   injection e with e1 e2;subst e1 e2
   obtain⟨k1,k2⟩:=Uq h2
   simp only [List.length_cons,List.take_succ_cons,List.drop_succ_cons,Bf]
   exact⟨⟨_,_,rfl,h1,k1⟩,k2⟩
theorem P6 {w:World} {G:B4}: ∀ {xs:List V} {us:List Value},xs.length=us.length→(∀ i,Ap w G (xs.getD i .undef) (us.getD i Go.undef))→Bf w G xs us
 | [],[],_,_=>by simp [Bf]
 | x::xs,u::us,hl,h=>by
   simp only [Bf]
   exact⟨u,us,rfl,by simpa using h 0,P6 (by simpa using hl) (fun i=>by simpa using h (i+1))⟩
 | [],_::_,hl,_=>by simp at hl
 | _::_,[],hl,_=>by simp at hl
theorem Tm {w:World} {G:B4}: ∀ {cs:List C} {us:List Value},AH w G cs us→Bf w G (cs.map V.c) us
 | [],[],_=>by simp [Bf]
 | c::cs,u::us,h=>by
   simp only [AH]at h
   simp only [List.map_cons,Bf]
   exact⟨u,us,rfl,by simp only [Ap];exact h.1,Tm h.2⟩
 | [],_::_,h=>by simp [AH]at h
 | _::_,[],h=>by simp [AH]at h
theorem R.enter (h:R F st a w G) (k:Nat) {args:List V} {us:Array Value} (ha:Bf w G args us.toList) (n:Nat):
 R {F with gv:=a.tmps.toList++F.gv} (st.enter k args n) {tmps:=us++Array.replicate (n - us.size) Go.undef,defers:=[]} w G:=by
 have hl:=H7 ha
 have hl':args.length=us.size:=by simpa using hl
 exact {
  dfr:=rfl
  size:=by simp [St.enter,hl']
  slots:=by
   intro i
   simp only [St.enter,List.getD_eq_getElem?_getD,Array.getD_eq_getD_getElem?]
   by_cases hi:i<args.length
   ·obtain⟨v,q1,q2⟩:=Ox ha i hi
    have e1:(us++Array.replicate (n - us.size) Go.undef)[i]? =some v:=by
     rw [Array.getElem?_append_left (by omega)];simpa using q1
    rw [e1,List.getElem?_append_left hi]
    simpa [List.getD_eq_getElem?_getD] using q2
   ·rw [List.getElem?_append_right (by omega),List.getElem?_replicate]
    split<;>simp [Ap]
  ghosts:=Mo (P6 (by simpa using h.size.symm) (fun i=>by
   have:=h.slots i
   simpa [List.getD_eq_getElem?_getD,Array.getD_eq_getD_getElem?] using this)) h.ghosts
  store:=h.store,pures:=h.pures,nodup:=h.nodup,inj:=h.inj,lt:=h.lt,new:=h.new,wr:=h.wr,avlt:=h.avlt,inv:=h.inv,avold:=h.avold
  os:=h.os,tape:=h.tape,output:=h.output,hsize:=h.hsize,ext:=h.ext}
theorem eJ {w:World} {G:B4} {xs:List V} {us:List Value} (h:Bf w G xs us) (i:Nat):Ap w G (xs.getD i .undef) (us.getD i Go.undef):=by
 by_cases hi:i<xs.length
 ·obtain⟨v,q1,q2⟩:=Ox h i hi
  rw [List.getD_eq_getElem?_getD (l:=us),q1];exact q2
 ·have:xs.getD i .undef = .undef :=by simp [List.getD_eq_getElem?_getD,hi]
  rw [this];simp only [Ap]
theorem R.back {a':Act} {st':St} (hd:a.defers=[]) {gv:List Value} (hgv:F.gv=a.tmps.toList++gv) (h:R F st' a' w G) {m:Nat} (hm:m=a.tmps.size) (pre:CI):R {F with gv:=gv} ⟨st'.gh.take m,st'.so,st'.gh.drop m,pre⟩ a w G:=by
 have hg:=h.ghosts
 rw [hgv]at hg
 obtain⟨h1,h2⟩:=Uq hg
 have e:a.tmps.toList.length=m:=by simp [hm]
 rw [e]at h1 h2
 exact {
  dfr:=hd
  size:=by have:=H7 h1;simp at this ⊢;omega
  slots:=fun i=>by
   have:=eJ h1 i
   simpa [List.getD_eq_getElem?_getD,Array.getD_eq_getD_getElem?] using this
  ghosts:=h2
  store:=h.store,pures:=h.pures,nodup:=h.nodup,inj:=h.inj,lt:=h.lt,new:=h.new,wr:=h.wr,avlt:=h.avlt,inv:=h.inv,avold:=h.avold
  os:=h.os,tape:=h.tape,output:=h.output,hsize:=h.hsize,ext:=h.ext}
end
def gI (P:Program) (rs:List ResultVar) (m:Nat) (pre:CI) (d:Option Nat) (K:St→Prop):Exit→St→Prop
 | .normal,st=>(I7 P st rs).1∧K (st.back m pre d (I7 P st rs).2)
 | .ret,st=>(I7 P st rs).1∧K (st.back m pre d (I7 P st rs).2)
 | _,_=>False
theorem E0.inline {P:Program} {I:World→Prop} {o:Oper} {st:St} {K:St→Prop} {x:Operand} {xs:List Operand} {c:Call} {s:Prop} {vs:List V} {f:FuncId} {cs:List C} {fn:Func} {body:Code} {n:Nat} {rs:List ResultVar} (k:Nat)
 (ho:o.op= .call c) (hcal:c.callee= .value x) (hxs:c.args.toList=xs) (ha:st.args true xs=(s,vs)) (hs:s) (hf:Y9 st x=some (f,cs)) (hent:ent P f=true) (hfn:P.funcs[f]? =some fn) (hb:fn.body=some body) (hn:fn.ntmps=n) (hr:fn.results=rs.toArray)
 (h: ∀ w0 av old gv,Ak P ⟨w0,av,old,I,gv⟩ body (st.enter k (vs++cs.map V.c) n) (gI P rs st.tm.length st.pre o.dst K)):E0 P I o st K:=by
 intro F a w G Q hI hR
 have hargs:Bf w G vs (xs.map a.eval):=by
  have:=hR.args (g:=true) rfl (xs:=xs) (by rw [ha];exact hs)
  rw [ha]at this;exact this
 obtain⟨arr,hev,hcs⟩: ∃ arr:Array Value,a.eval x= .func (.func f) #[] arr∧AH w G cs arr.toList:=by
  have hx:=hR.ev x
  unfold Y9 at hf
  split at hf
  ·rename_i f' he
   rw [he]at hx
   simp only [Option.some.injEq,Prod.mk.injEq]at hf
   obtain⟨rfl,rfl⟩:=hf
   simp only [Ap,Ax]at hx
   exact⟨#[],hx,by simp [AH]⟩
  ·rename_i f' cs' he
   rw [he]at hx
   simp only [Option.some.injEq,Prod.mk.injEq]at hf
   obtain⟨rfl,rfl⟩:=hf
   simpa only [Ap,Ax] using hx
  ·cases hf
 have hrun:(execOp a.eval o).run P w= .ok (.enter f ((xs.map a.eval).toArray ++arr)) w:=by
  have e:c.args.map a.eval=(xs.map a.eval).toArray :=by apply Array.ext';simp [←hxs]
  simp [execOp,ho,resolve,hcal,hev,Deferred.ofValue,invoke,run_callFunc' hent,e]
 unfold Oper.wp Oper.upon
 rw [hrun]
 simp only
 obtain⟨w0,av,old,I',gv⟩:=F
 simp only at hI;subst hI
 have hall:Bf w G (vs++cs.map V.c) ((xs.map a.eval).toArray ++arr).toList :=by
  simpa using Mo hargs (Tm hcs)
 refine calls_of_wp hfn hb ?_
 have hR0:=hR.enter k hall fn.ntmps
 rw [hn]at hR0
 rw [hn]
 refine Code.wp_mono (fun e a' w' ⟨st',G',q,hR'⟩=>?_) (h _ _ _ _ _ _ _ hR0)
 have hrs:fn.results.toList=rs:=by rw [hr]
 have fin:(I7 P st' rs).1∧K (st'.back st.tm.length st.pre o.dst (I7 P st' rs).2)→
  a'.defers=[]∧ ∃ v,(results fn a'.tmps).run P w'= .ok v w'∧kp ⟨w0,av,old,I',gv⟩ K (a.put o.dst v) w':=by
  intro ⟨q1,q2⟩
  rw [←hrs]at q1 q2
  obtain⟨v,k1,k2⟩:=Sp hR' (fn:=fn) q1
  refine⟨hR'.dfr,v,k1,_,G',q2,?_⟩
  exact(R.back hR.dfr rfl hR' hR.size.symm st.pre).put k2
 cases e<;>simp only [gI]at q<;>first | exact fin q | exact q.elim
end Go.PL
namespace Go.PL
open Go Go.RowKit Go.ChangeShapes Go.WideShapes
theorem Rs {H:Type} {enc:TypeId×Value→H} {P:Program} (hl:laidOutB P=true) {W W':World} (hb:Below W.heap.size W W'):
 ∀ {ts:List TypeId} {vs:List Value} {ds:List (DataW H)} {ps:List MemPlace},(ts.all fun t=>P.readableRec t&&decide (t<P.types.size))=true→DataW.TrodAll enc P W 0 (fun _=>true) true ts vs ds ps→(∀ x∈ps,x.block<W.heap.size)→
   DataW.TrodAll enc P W' 0 (fun b=>decide (b<W.heap.size)) true ts vs ds ps
 | [],_,_,_,_,h,_=>by
   obtain⟨rfl,rfl,rfl⟩:=trodAll_nil h
   exact trodAll_mk0
 | t::ts,_,_,_,hr,h,hlt=>by
   obtain⟨v,vs1,d,ds1,a,b,rfl,rfl,rfl,h1,h2⟩:=trodAll_cons h
   simp only [List.all_cons,Bool.and_eq_true,decide_eq_true_eq]at hr
   exact⟨a,b,Below.trod hl hr.1.1 hr.1.2 h1 hb (fun x hx=>hlt x (by simp [hx])),Rs hl hb hr.2 h2 (fun x hx=>hlt x (by simp [hx])),rfl⟩
theorem Af.law {P:Program} {I:World→Prop} {f:FuncId} {xs:List V} (h:Af P I f xs (· = .c (.bool true))) {W:World} (hI:I W) {args:Array Value} (ha:Bf W (im fun _=>False) xs args.toList):
 Calls P f args W fun e W'=>e= .returned (.bool true)∧Below W.heap.size W W':=by
 refine(h.run W args (fun _=>False) hI (fun _ h=>h.elim) ha).mono fun e W' ⟨v,r,he,hr,_,hv,hb⟩=>⟨?_,hb⟩
 subst hr
 simp only [Ap,Ax]at hv
 rw [he,hv]
end Go.PL
namespace Go.PL
open Go Go.RowKit Go.ChangeShapes Go.WideShapes
def Tp (R:TypeId→List C→Prop):List TypeId→List (List C)→Prop
 | [],dss=>dss=[]
 | t::ts,dss=> ∃ ds r,dss=ds::r∧R t ds∧Tp R ts r
def BK (P:Program):Nat→TypeId→List C→Prop
 | 0,_,_=>False
 | n+1,t,cs=>match P.underlying t with
   | some .bool => ∃ b,cs=[.bool b]
   | some (.int k)=> ∃ z,cs=[.int k z]∧(Lit.int k z).wf =true
   | some .string => ∃ s:List UInt8,cs=[.str s]∧s.length≤reachBytes
   | some (.slice e)=> ∃ dss:List (List C),cs=[.sl dss.length dss.flatten]∧dss.length*P.bytesOf e≤reachBytes∧ ∀ ds∈dss,BK P n e ds
   | some (.struct fs)=> ∃ dss:List (List C),cs=dss.flatten∧Tp (BK P n) (fs.toList.map (·.type)) dss
   | some (.array m e)=> ∃ dss:List (List C),cs=dss.flatten∧dss.length=m∧ ∀ ds∈dss,BK P n e ds
   | some (.pointer e)=>cs=[.nilp]∨ ∃ ds,cs=[.iptr ds 0]∧BK P n e ds
   | some (.interface _)=>cs=[.niface]∨cs=[.held]
   | _=>False
theorem Ll: ∀ {dss:List (List C)},(∀ ds∈dss,Bw ds=true)→Bw dss.flatten=true
 | [],_=>rfl
 | ds::dss,h=>by rw [List.flatten_cons,Kd,h ds (by simp),Ll (fun d hd=>h d (by simp [hd]))];rfl
theorem Yd {R:TypeId→List C→Prop} (hR: ∀ t ds,R t ds→Bw ds=true): ∀ {ts:List TypeId} {dss:List (List C)},Tp R ts dss→ ∀ ds∈dss,Bw ds=true
 | [],dss,h,ds,hd=>by simp only [Tp]at h;subst h;simp at hd
 | t::ts,dss,h,ds,hd=>by
   simp only [Tp]at h
   obtain⟨d,r,rfl,h1,h2⟩:=h
   rcases List.mem_cons.1 hd with rfl | hd
   ·exact hR t _ h1
   ·exact Yd hR h2 ds hd
theorem Pc {P:Program}: ∀ {n:Nat} {t:TypeId} {cs:List C},BK P n t cs→Bw cs=true
 | 0,_,_,h=>h.elim
 | n+1,t,cs,h=>by
   unfold BK at h
   split at h
   ·obtain⟨b,rfl⟩:=h;rfl
   ·obtain⟨z,rfl,_⟩:=h;rfl
   ·obtain⟨s,rfl,_⟩:=h;rfl
   ·obtain⟨dss,rfl,_⟩:=h;rfl
   ·obtain⟨dss,rfl,h2⟩:=h;exact Ll (Yd (fun t ds h=>Pc h) h2)
   ·obtain⟨dss,rfl,_,h2⟩:=h;exact Ll (fun ds hd=>Pc (h2 ds hd))
   ·rcases h with rfl | ⟨ds,rfl,_⟩<;>rfl
   ·rcases h with rfl | rfl<;>rfl
   ·exact h.elim
section
variable {H:Type} {enc:TypeId×Value→H} {P:Program} {w:World} {spare:Nat→Bool}
theorem V0 {G:B4}: ∀ {a b:List C} {u v:List Value},AH w G a u→AH w G b v→AH w G (a++b) (u++v)
 | [],_,[],_,_,h=>h
 | _::_,_,_::_,_,h,h'=>by simp only [AH]at h;simp only [List.cons_append,AH];exact⟨h.1,V0 h.2 h'⟩
 | [],_,_::_,_,h,_=>by simp [AH]at h
 | _::_,_,[],_,h,_=>by simp [AH]at h
theorem aX {G:B4}: ∀ {a:List C} {u:List Value},AH w G a u→a.length=u.length
 | [],[],_=>rfl
 | _::_,_::_,h=>by simp only [AH]at h;simp [aX h.2]
 | [],_::_,h=>by simp [AH]at h
 | _::_,[],h=>by simp [AH]at h
theorem Tq {G:B4} {b:Nat}: ∀ {cs:List C} {ds:List Value} {o:Nat},AH w G cs ds→(∀ j,j<ds.length→w.cell? ⟨b,o+j,none⟩=ds[j]?)→A9 w G cs b o
 | [],_,_,_,_=>by simp [A9]
 | c::cs,d::ds,o,h,hc=>by
   simp only [AH]at h
   simp only [A9]
   refine⟨⟨d,by simpa using hc 0 (by simp),h.1⟩,Tq h.2 (fun j hj=>?_)⟩
   have:=hc (j+1) (by simp;omega)
   simpa [Nat.add_assoc,Nat.add_comm 1 j] using this
 | _::_,[],_,h,_=>by simp [AH]at h
theorem V1 {G:B4} {b:Nat}: ∀ {cs cs':List C} {o:Nat},A9 w G cs b o→A9 w G cs' b (o+cs.length)→A9 w G (cs++cs') b o
 | [],_,_,_,h=>by simpa using h
 | c::cs,cs',o,h,h'=>by
   simp only [A9]at h
   simp only [List.cons_append,A9]
   exact⟨h.1,V1 h.2 (by simpa [Nat.add_assoc,Nat.add_comm 1] using h')⟩
theorem aY {a:Addr} {n:Nat} {cs:List Value} (hn:0<n) (h:w.cells? 0 a n=some cs):a=⟨a.block,a.off,none⟩∧a.block<w.heap.size∧cs.length=n∧ ∀ j,j<n→w.cell? ⟨a.block,a.off+j,none⟩=cs[j]? :=by
 obtain⟨_,hl,hc⟩:=World.cells?_some h
 have h0:=hc 0 hn
 obtain⟨b,o,sp⟩:=a
 have hsp:sp=none:=by
  cases sp with
  | none=>rfl
  | some x=>
    have e:cs[0]? =some cs[0]:=by rw [List.getElem?_eq_getElem]
    rw [e]at h0
    simp only [Addr.add,if_true]at h0
    unfold World.cell? at h0
    split at h0<;>simp at h0
 subst hsp
 refine⟨rfl,World.cells?_block h hn,hl,fun j hj=>?_⟩
 have:=hc j hj
 simp only [Addr.add]at this
 split at this
 ·rename_i hj0;subst hj0;exact this
 ·exact this
def nG (P:Program):Nat→List Field→Bool
 | _,[]=>true
 | o,f::fs=>f.offset==o&&nG P (o+P.cellsOf f.type) fs
def nj (P:Program):Nat→TypeId→Bool
 | 0,_=>false
 | n+1,t=>match P.underlying t with
   | some .bool =>P.cellsOf t==1
   | some (.int _)=>P.cellsOf t==1
   | some .string =>P.cellsOf t==1
   | some (.slice e)=>P.cellsOf t==1&&decide (0<P.cellsOf e)&&nj P n e
   | some (.struct fs)=>nG P 0 fs.toList&&P.cellsOf t==(fs.toList.map fun f=>P.cellsOf f.type).sum &&fs.toList.all (fun f=>nj P n f.type)
   | some (.array m e)=>P.cellsOf t==m*P.cellsOf e&&nj P n e
   | some (.pointer e)=>P.cellsOf t==1&&decide (0<P.cellsOf e)&&nj P n e
   | some (.interface _)=>P.cellsOf t==1
   | _=>false
variable {G:B4} (hG: ∀ b,b<w.heap.size→ ¬G.wr b)
def gJ (enc:TypeId×Value→H) (P:Program) (w:World) (spare:Nat→Bool) (G:B4) (n:Nat) (t:TypeId):Prop:=
 ∀ (fuel:Nat) (vs:List Value) (x:DataW H×List MemPlace),DataW.trod enc P w 0 spare true fuel t vs=some x→(x.1.weights P t).all (· ≤reachBytes)=true→ ∃ cs,AH w G cs vs∧BK P n t cs∧vs.length=P.cellsOf t
theorem Ur {n:Nat}: ∀ {fs:List Field} {o m:Nat} {vs:List Value} {xs:List (DataW H×List MemPlace)},nG P o fs=true→vs.length=o+(fs.map fun f=>P.cellsOf f.type).sum →xs.length=fs.length→
 (∀ f∈fs,gJ enc P w spare G n f.type)→
 (∀ (i:Nat) (f:Field),fs[i]? =some f→DataW.trod enc P w 0 spare true m f.type ((vs.drop f.offset).take (P.cellsOf f.type))=xs[i]?)→
 (DataW.weightsEach P (fs.map (·.type)) (xs.map (·.1))).all (· ≤reachBytes)=true→ ∃ dss:List (List C),AH w G dss.flatten (vs.drop o)∧Tp (BK P n) (fs.map (·.type)) dss
 | [],o,m,vs,xs,_,hl,_,_,_,_=>by
   refine⟨[],?_,rfl⟩
   have:vs.drop o=[]:=by simp at hl;simp;omega
   rw [this];simp [AH]
 | f::fs,o,m,vs,xs,ht,hl,hx,hr,hf,hw=>by
   simp only [nG,Bool.and_eq_true,beq_iff_eq]at ht
   obtain⟨h1,h2⟩:=ht
   cases xs with
   | nil=>simp at hx
   | cons x xs=>
     simp only [List.map_cons,List.sum_cons]at hl
     simp only [List.map_cons,DataW.weightsEach,List.all_append,Bool.and_eq_true]at hw
     have h0:=hf 0 f rfl
     simp only [List.getElem?_cons_zero]at h0
     obtain⟨cs,q1,q2,q3⟩:=hr f (by simp) m _ x h0 hw.1
     obtain⟨dss,k1,k2⟩:=Ur (o:=o+P.cellsOf f.type) (m:=m) (vs:=vs) (xs:=xs) h2 (by omega) (by simpa using hx) (fun g hg=>hr g (by simp [hg]))
      (fun i g hg=>by have:=hf (i+1) g (by simpa using hg);simpa using this) hw.2
     refine⟨cs::dss,?_,cs,dss,rfl,q2,k2⟩
     have e:vs.drop o=(vs.drop o).take (P.cellsOf f.type)++vs.drop (o+P.cellsOf f.type):=by rw [←List.drop_drop,List.take_append_drop]
     rw [e,List.flatten_cons]
     rw [h1]at q1
     exact V0 q1 k1
theorem V2 {n e:Nat} (hr:gJ enc P w spare G n e): ∀ (k o m:Nat) (vs:List Value) (xs:List (DataW H×List MemPlace)),vs.length=o+k*P.cellsOf e→xs.length=k→
 (∀ i,i<k→DataW.trod enc P w 0 spare true m e ((vs.drop (o+i*P.cellsOf e)).take (P.cellsOf e))=xs[i]?)→
 (DataW.weightsAll P e (xs.map (·.1))).all (· ≤reachBytes)=true→ ∃ dss:List (List C),AH w G dss.flatten (vs.drop o)∧dss.length=k∧ ∀ ds∈dss,BK P n e ds
 | 0,o,m,vs,xs,hl,_,_,_=>by
   refine⟨[],?_,rfl,by simp⟩
   have:vs.drop o=[]:=by simp;omega
   rw [this];simp [AH]
 | k+1,o,m,vs,xs,hl,hx,hf,hw=>by
   cases xs with
   | nil=>simp at hx
   | cons x xs=>
     simp only [List.map_cons,DataW.weightsAll,List.all_append,Bool.and_eq_true]at hw
     have h0:=hf 0 (by omega)
     simp only [Nat.zero_mul,Nat.add_zero,List.getElem?_cons_zero]at h0
     obtain⟨cs,q1,q2,q3⟩:=hr m _ x h0 hw.1
     obtain⟨dss,k1,k2,k3⟩:=V2 hr k (o+P.cellsOf e) m vs xs (by rw [hl,Nat.add_mul];omega) (by simpa using hx)
      (fun i hi=>by
       have:=hf (i+1) (by omega)
       simp only [List.getElem?_cons_succ]at this
       rw [←this]
       congr 3
       rw [Nat.add_mul];omega) hw.2
     refine⟨cs::dss,?_,by simp [k2],?_⟩
     ·have e':vs.drop o=(vs.drop o).take (P.cellsOf e)++vs.drop (o+P.cellsOf e):=by rw [←List.drop_drop,List.take_append_drop]
      rw [e',List.flatten_cons]
      exact V0 q1 k1
     ·intro ds hds
      rcases List.mem_cons.1 hds with rfl | hd
      ·exact q2
      ·exact k3 ds hd
theorem V3 {n e:Nat} (hpos:0<P.cellsOf e) (hr:gJ enc P w spare G n e): ∀ (k o m:Nat) (a:Addr) (xs:List (DataW H×List MemPlace)),xs.length=k→
 (∀ i,i<k→(w.cells? 0 (a.add (o+i*P.cellsOf e)) (P.cellsOf e)).bind (DataW.trod enc P w 0 spare true m e)=xs[i]?)→
 (DataW.weightsAll P e (xs.map (·.1))).all (· ≤reachBytes)=true→
 ∃ dss:List (List C),dss.length=k∧(∀ ds∈dss,BK P n e ds)∧(0<k→a.block<w.heap.size∧(o=0→a=⟨a.block,a.off,none⟩)∧A9 w G dss.flatten a.block (a.off+o))
 | 0,o,m,a,xs,_,_,_=>⟨[],rfl,by simp,fun h=>by omega⟩
 | k+1,o,m,a,xs,hx,hf,hw=>by
   cases xs with
   | nil=>simp at hx
   | cons x xs=>
     simp only [List.map_cons,DataW.weightsAll,List.all_append,Bool.and_eq_true]at hw
     have h0:=hf 0 (by omega)
     simp only [Nat.zero_mul,Nat.add_zero,List.getElem?_cons_zero,Option.bind_eq_some_iff]at h0
     obtain⟨vs,hvs,htr⟩:=h0
     obtain⟨cs,q1,q2,q3⟩:=hr m _ x htr hw.1
     obtain⟨c1,c2,c3,c4⟩:=aY hpos hvs
     obtain⟨dss,k2,k3,k4⟩:=V3 hpos hr k (o+P.cellsOf e) m a xs (by simpa using hx)
      (fun i hi=>by
       have:=hf (i+1) (by omega)
       simp only [List.getElem?_cons_succ]at this
       rw [←this]
       congr 3
       rw [Nat.add_mul];omega) hw.2
     have hblk:(a.add o).block =a.block:=by unfold Addr.add;split<;>rfl
     have hoff:(a.add o).off =a.off+o:=by
      unfold Addr.add
      split
      ·rename_i q;rw [q];rfl
      ·rfl
     refine⟨cs::dss,by simp [k2],?_,fun _=>⟨by rw [←hblk];exact c2,fun ho=>?_,?_⟩⟩
     ·intro ds hds
      rcases List.mem_cons.1 hds with rfl | hd
      ·exact q2
      ·exact k3 ds hd
     ·subst ho
      have e:a.add 0=a:=rfl
      rw [e]at c1
      exact c1
     ·rw [List.flatten_cons]
      rw [hblk,hoff]at c4
      have hlen:cs.length=P.cellsOf e:=(aX q1).trans q3
      refine V1 (Tq q1 (fun j hj=>c4 j (by omega))) ?_
      by_cases hk:0<k
      ·have:=(k4 hk).2.2
       rw [hlen]
       simpa [Nat.add_assoc] using this
      ·have:dss=[]:=List.length_eq_zero_iff.1 (by omega)
       subst this
       simp [A9]
theorem V4 {c:C} {v:Value} (h:Ax w G c v):AH w G [c] [v]:=by simp only [AH];exact⟨h,trivial⟩
theorem gK {len:Nat} {cs:List C} {v:Value} (hp:Bw cs=true) (h: ∃ a cap,v= .slice a len cap∧len≤cap∧cap≤maxLen∧(len=0→cs=[])∧
 (len=0∨ ∃ b off,a=some ⟨b,off,none⟩∧ ¬G.wr b∧b<w.heap.size∧A9 w G cs b off)):Ax w G (.sl len cs) v:=by unfold Ax;exact⟨hp,h⟩
theorem jc {cs:List C} {off:Nat} {v:Value} (hp:Bw cs=true) (h: ∃ b o,v= .pointer (some ⟨b,o+off,none⟩)∧ ¬G.wr b∧b<w.heap.size∧A9 w G cs b o):Ax w G (.iptr cs off) v:=by unfold Ax;exact⟨hp,h⟩
include hG in
theorem OA: ∀ (n:Nat) (t:TypeId),nj P n t=true→gJ enc P w spare G n t
 | 0,t,h=>by simp [nj]at h
 | n+1,t,h=>by
   intro fuel vs x hx hw
   unfold nj at h
   unfold BK
   split at h
   ·rename_i ht
    obtain⟨b,rfl,rfl⟩:=DataW.trod_bool ht hx
    exact⟨[.bool b],by simp [AH,Ax],by exact⟨b,rfl⟩,by rw [beq_iff_eq.1 h];rfl⟩
   ·rename_i k ht
    obtain⟨z,rfl,rfl,hwf⟩:=DataW.trod_int ht hx
    exact⟨[.int k z],by simp [AH,Ax],by exact⟨z,rfl,hwf⟩,by rw [beq_iff_eq.1 h];rfl⟩
   ·rename_i ht
    obtain⟨s,rfl,rfl,hs⟩:=DataW.trod_string ht hx
    simp only [DataW.weights,List.all_cons,List.all_nil,Bool.and_true,decide_eq_true_eq]at hw
    exact⟨[.str s.data.toList],by simp [AH,Ax],by exact⟨_,rfl,hw⟩,by rw [beq_iff_eq.1 h];rfl⟩
   ·rename_i e ht
    simp only [Bool.and_eq_true,decide_eq_true_eq,beq_iff_eq]at h
    rcases DataW.trod_slice ht hx with ⟨rfl,rfl⟩ | ⟨a,len,cap,elems,rest,m,rfl,rfl,rfl,_,hle,hmax,hlen,hel,_,_⟩
    ·refine⟨[.sl 0 []],?_,?_,by rw [h.1.1];rfl⟩
     ·exact V4 (gK rfl ⟨none,0,rfl,Nat.le_refl _,Nat.zero_le _,fun _=>rfl, .inl rfl⟩)
     ·exact⟨[],rfl,by simp,by simp⟩
    ·simp only [DataW.weights,ht,List.all_cons,List.all_append,Bool.and_eq_true,decide_eq_true_eq,List.length_map]at hw
     obtain⟨dss,k2,k3,k4⟩:=V3 h.1.2 (OA n e h.2) len 0 m a elems hlen (fun i hi=>by rw [Nat.zero_add];exact hel i hi) hw.2.1
     refine⟨[.sl dss.length dss.flatten],?_,?_,by rw [h.1.1];rfl⟩
     ·refine V4 (gK (Ll (fun ds hd=>Pc (k3 ds hd))) ⟨some a,cap,by rw [k2],by omega,hmax,fun h0=>by rw [List.length_eq_zero_iff.1 h0];rfl,?_⟩)
      rw [k2]
      by_cases hk:0<len
      ·obtain⟨q1,q2,q3⟩:=k4 hk
       exact .inr ⟨a.block,a.off,by rw [←q2 rfl],hG _ q1,q1,q3⟩
      ·exact .inl (by omega)
     ·refine⟨dss,rfl,?_,k3⟩
      refine Nat.le_trans (Nat.mul_le_mul_right _ ?_) hw.1
      omega
   ·rename_i fs ht
    simp only [Bool.and_eq_true,beq_iff_eq,List.all_eq_true]at h
    obtain⟨⟨h1,h2⟩,h3⟩:=h
    obtain⟨xs,m,rfl,rfl,hl,hx2,hf⟩:=DataW.trod_struct ht hx
    simp only [DataW.weights,ht]at hw
    obtain⟨dss,k1,k2⟩:=Ur (fs:=fs.toList) (o:=0) (m:=m) (vs:=vs) (xs:=xs) (enc:=enc) (spare:=spare) (n:=n) h1 (by rw [hl,h2];simp) (by simpa using hx2) (fun f hf=>OA n f.type (h3 f hf))
     (fun i f hi=>hf i f (by simpa using hi)) hw
    exact⟨dss.flatten,by simpa using k1,by exact⟨dss,rfl,k2⟩,hl⟩
   ·rename_i m e ht
    simp only [Bool.and_eq_true,beq_iff_eq]at h
    obtain⟨xs,q,rfl,rfl,hl,hx2,hf⟩:=DataW.trod_array ht hx
    simp only [DataW.weights,ht]at hw
    obtain⟨dss,k1,k2,k3⟩:=V2 (OA n e h.2) m 0 q vs xs (by rw [hl,h.1];simp) hx2 (fun i hi=>by rw [Nat.zero_add];exact hf i hi) hw
    exact⟨dss.flatten,by simpa using k1,by exact⟨dss,rfl,k2,k3⟩,hl⟩
   ·rename_i e ht
    simp only [Bool.and_eq_true,decide_eq_true_eq,beq_iff_eq]at h
    rcases DataW.trod_pointer ht hx with ⟨rfl,rfl⟩ | ⟨a,cs',y,m,rfl,rfl,rfl,hc,hy⟩
    ·exact⟨[.nilp],by simp [AH,Ax],by exact .inl rfl,by rw [h.1.1];rfl⟩
    ·simp only [DataW.weights,ht]at hw
     obtain⟨ds,q1,q2,q3⟩:=OA n e h.2 m cs' y hy hw
     obtain⟨c1,c2,c3,c4⟩:=aY h.1.2 hc
     refine⟨[.iptr ds 0],?_,by exact .inr ⟨ds,rfl,q2⟩,by rw [h.1.1];rfl⟩
     exact V4 (jc (Pc q2) ⟨a.block,a.off,by rw [Nat.add_zero, ←c1],hG _ c2,c2,Tq q1 (fun j hj=>c4 j (by omega))⟩)
   ·rename_i ms ht
    cases fuel with
    | zero=>simp [DataW.trod]at hx
    | succ fuel=>
      unfold DataW.trod at hx
      rw [ht]at hx
      split at hx<;>simp_all
      ·exact⟨[.niface],by simp [AH,Ax], .inl rfl⟩
      ·exact⟨[.held],by simp [AH,Ax], .inr rfl⟩
   ·cases h
end
end Go.PL
namespace Go.PL
open Go Go.RowKit
section
variable {P:Program} {t e:TypeId} {n:Nat} {cs:List C}
theorem eK (hu:P.underlying t=some .bool) (h:BK P n t cs): ∃ b,cs=[.bool b]∧True:=by
 cases n with
 | zero=>exact h.elim
 | succ n=>simp only [BK,hu]at h;obtain⟨b,h⟩:=h;exact⟨b,h,trivial⟩
theorem jd {k:IntKind} (hu:P.underlying t=some (.int k)) (h:BK P n t cs): ∃ z,cs=[.int k z]∧(Lit.int k z).wf =true:=by
 cases n with
 | zero=>exact h.elim
 | succ n=>simpa only [BK,hu] using h
theorem je (hu:P.underlying t=some .string) (h:BK P n t cs): ∃ s:List UInt8,cs=[.str s]∧s.length≤reachBytes:=by
 cases n with
 | zero=>exact h.elim
 | succ n=>simpa only [BK,hu] using h
theorem V5 {α:Type} {R:List C→Prop} {enc:α→List C} {ok:α→Prop} (hd: ∀ ds,R ds→ ∃ x,ds=enc x∧ok x): ∀ {dss:List (List C)},(∀ ds∈dss,R ds)→ ∃ l:List α,dss=l.map enc∧ ∀ y∈l,ok y
 | [],_=>⟨[],rfl,by simp⟩
 | ds::dss,h=>by
   obtain⟨x,h1,h2⟩:=hd ds (h ds (by simp))
   obtain⟨l,h3,h4⟩:=V5 hd (fun d hd'=>h d (by simp [hd']): ∀ d∈dss,R d)
   refine⟨x::l,by rw [h1,h3];rfl,fun y hy=>?_⟩
   rcases List.mem_cons.1 hy with rfl | hy
   ·exact h2
   ·exact h4 y hy
theorem kL {α:Type} {enc:α→List C} {ok:α→Prop} {b:Nat} (hu:P.underlying t=some (.slice e)) (hb:P.bytesOf e=b) (hd: ∀ n ds,BK P n e ds→ ∃ x,ds=enc x∧ok x) (h:BK P n t cs):
 ∃ l:List α,cs=[.sl l.length (l.flatMap enc)]∧l.length*b≤reachBytes∧ ∀ y∈l,ok y:=by
 cases n with
 | zero=>exact h.elim
 | succ n=>
   simp only [BK,hu]at h
   obtain⟨dss,h1,h2,h3⟩:=h
   obtain⟨l,rfl,h5⟩:=V5 (hd n) h3
   rw [hb,List.length_map]at h2
   exact⟨l,by rw [h1,List.length_map,List.flatMap_def],h2,h5⟩
theorem aZ {α:Type} (f:α→C): ∀ l:List α,l.flatMap (fun x=>[f x])=l.map f
 | []=>rfl
 | a::l=>by rw [List.flatMap_cons,aZ f l];rfl
theorem Bv {fs:Array Field} {ts:List TypeId} (hu:P.underlying t=some (.struct fs)) (hts:fs.toList.map (·.type)=ts) (h:BK P n t cs): ∃ (m:Nat) (dss:List (List C)),cs=dss.flatten∧Tp (BK P m) ts dss:=by
 cases n with
 | zero=>exact h.elim
 | succ n=>simp only [BK,hu,hts]at h;exact⟨n,h⟩
theorem Ye {α:Type} {enc:α→List C} {n:Nat} (hn: ∀ x,(enc x).length =n) (l:List α) {i:Nat} (d:α) (hi:i<l.length) (j m:Nat) (hj:j+m≤n):
 ((l.flatMap enc).drop (i*n+j)).take m=((enc (l.getD i d)).drop j).take m:=by
 induction l generalizing i with
 | nil=>simp at hi
 | cons a l ih=>
   cases i with
   | zero=>
     simp only [List.flatMap_cons,Nat.zero_mul,Nat.zero_add,List.getD_cons_zero]
     rw [List.drop_append_of_le_length (by rw [hn];omega),List.take_append_of_le_length (by rw [List.length_drop,hn];omega)]
   | succ i=>
     have:=ih (i:=i) (by simpa using hi)
     rw [List.getD_cons_succ, ←this,List.flatMap_cons]
     have e:(i+1)*n+j=(enc a).length +(i*n+j):=by rw [hn,Nat.add_mul];omega
     rw [e,List.drop_append,List.drop_of_length_le (by omega)]
     simp
theorem kM {α:Type} {enc:α→List C} {n:Nat} (hn: ∀ x,(enc x).length =n) (l:List α) {i:Nat} (d:α) (hi:i<l.length) (j:Nat) (hj:j<n):
 (l.flatMap enc).getD (i*n+j) C.any=(enc (l.getD i d)).getD j C.any:=by
 have h:=Ye hn l d hi j 1 (by omega)
 have e: ∀ (m:List C) (k:Nat),m.getD k C.any=((m.drop k).take 1).getD 0 C.any:=by
  intro m k
  simp [List.getD_eq_getElem?_getD,List.getElem?_take,List.getElem?_drop]
 rw [e,h, ←e]
theorem Kf {α:Type} {enc:α→List C} {n:Nat} (hn: ∀ x,(enc x).length =n): ∀ l:List α,(l.flatMap enc).length =l.length*n
 | []=>by simp
 | a::l=>by rw [List.flatMap_cons,List.length_append,hn,Kf hn l,List.length_cons,Nat.add_mul];omega
end
end Go.PL
namespace Go.PL
open Go Go.RowKit
def BE:List Prop→Prop
 | []=>True
 | p::ps=>p∧BE ps
theorem Az: ∀ {a b:List Prop},BE (a++b)↔BE a∧BE b
 | [],b=>by simp [BE]
 | p::a,b=>by simp only [List.cons_append,BE,Az (a:=a) (b:=b),and_assoc]
abbrev CV:=Option (List Prop×V)
def Vl {α:Type} (b:Bool) (r:α):Option α:=match b with
 | true=>some r
 | false=>none
theorem CO {α:Type} {b:Bool} {r x:α} (h:Vl b r=some x):b=true∧r=x:=by
 cases b<;>simp [Vl]at h;exact⟨rfl,h⟩
def CQ (st:St) (g:Bool) (x:Operand):List Prop×V:=
 match st.ev x with
 | .g c v=>([g=true→c=true],v)
 | v=>([],v)
theorem Sq {st:St} {g:Bool} {x:Operand} (hl:BE (CQ st g x).1):(st.arg g x).1∧(st.arg g x).2=(CQ st g x).2:=by
 unfold CQ at *
 unfold St.arg
 generalize st.ev x=e at *
 cases e with
 | g c v=>exact⟨hl.1,rfl⟩
 | c _=>exact⟨trivial,rfl⟩
 | agg _=>exact⟨trivial,rfl⟩
 | tup _=>exact⟨trivial,rfl⟩
 | undef=>exact⟨trivial,rfl⟩
def GF (st:St) (g:Bool):List Operand→List Prop×List V
 | []=>([],[])
 | x::xs=>((CQ st g x).1++(GF st g xs).1,(CQ st g x).2::(GF st g xs).2)
theorem LF {st:St} {g:Bool}: ∀ {xs:List Operand},BE (GF st g xs).1→(st.args g xs).1∧(st.args g xs).2=(GF st g xs).2
 | [],_=>⟨trivial,rfl⟩
 | x::xs,hl=>by
   obtain⟨h1,h2⟩:=Az.1 hl
   have a:=Sq (st:=st) (g:=g) (x:=x) h1
   have b:=LF (st:=st) (g:=g) (xs:=xs) h2
   simp only [St.args,GF]
   exact⟨⟨a.1,b.1⟩,by rw [a.2,b.2]⟩
def Za:V→Option (Option Bool×Bool)
 | .c (.bool q)=>some (none,q)
 | .g c (.c (.bool q))=>some (some c,q)
 | _=>none
def kN (p:Prop):Option Bool→List Prop
 | none=>[]
 | some c=>[p→c=true]
theorem Us {v:V} {c:Option Bool} {q:Bool} (h:Za v=some (c,q)):Tg v=some (c.getD true,q):=by
 unfold Za at h
 split at h<;>simp at h
 ·obtain⟨rfl,rfl⟩:=h;rfl
 ·obtain⟨rfl,rfl⟩:=h;rfl
theorem V6 {p:Prop} {c:Option Bool} (h:BE (kN p c)):p→c.getD true=true:=by
 cases c with
 | none=>intro _;rfl
 | some c=>exact h.1
def pp (l:List Prop) (p:Bool) (a b:V):CV:=
 match Za a,Za b with
 | some (ca,q),some (cb,r)=>some (l++(kN (p=true) ca++kN (p=false) cb), .c (.bool (if p then q else r)))
 | _,_=>none
def gL (P:Program) (t:TypeId) (st:St) (l:List Prop):V→CV
 | .c (.ptr id off)=>match Vg P t,st.look id with
   | some (ag,n),some e=>Vl (Nat.ble (off+n) e.cs.length&&(ag||Nat.blt 0 n)) (l,O6 ag off n e.cs)
   | _,_=>none
 | .c (.iptr cs off)=>match Vg P t with
   | some (ag,n)=>Vl (Nat.ble (off+n) cs.length&&(ag||Nat.blt 0 n)) (l,O6 ag off n cs)
   | _=>none
 | _=>none
theorem Ut {P:Program} {t:TypeId} {st:St} {l l':List Prop} {x v:V} (h:gL P t st l x=some (l',v)):l=l'∧(MU P t st x).1∧(MU P t st x).2=v:=by
 unfold gL at h
 unfold MU
 split at h
 ·split at h
  ·rename_i ag n e h1 h2
   obtain⟨hb,hr⟩:=CO h
   simp only [Prod.mk.injEq]at hr
   simp only [Bool.and_eq_true,Nat.ble_eq,Bool.or_eq_true,Nat.blt_eq]at hb
   simp only [h1,h2]
   exact⟨hr.1,hb,hr.2⟩
  ·cases h
 ·split at h
  ·rename_i ag n h1
   obtain⟨hb,hr⟩:=CO h
   simp only [Prod.mk.injEq]at hr
   simp only [Bool.and_eq_true,Nat.ble_eq,Bool.or_eq_true,Nat.blt_eq]at hb
   simp only [h1]
   exact⟨hr.1,hb,hr.2⟩
  ·cases h
 ·cases h
def kO (P:Program) (t:TypeId) (st:St) (l:List Prop) (u:V):V→CV
 | .c (.ptr id off)=>match Vg P t,st.look id with
   | some (ag,n),some e=>Vl (ag||Nat.blt 0 n) (l++[off+n≤e.cs.length∧O6 ag off n e.cs=u],u)
   | _,_=>none
 | .c (.iptr cs off)=>match Vg P t with
   | some (ag,n)=>Vl (ag||Nat.blt 0 n) (l++[off+n≤cs.length∧O6 ag off n cs=u],u)
   | _=>none
 | _=>none
theorem a6 {P:Program} {t:TypeId} {st:St} {l l':List Prop} {x u v:V} (h:kO P t st l u x=some (l',v)) (hl:BE l'):BE l∧(MU P t st x).1∧(MU P t st x).2=v:=by
 unfold kO at h
 unfold MU
 split at h
 ·split at h
  ·rename_i ag n e h1 h2
   obtain⟨hb,hr⟩:=CO h
   simp only [Prod.mk.injEq]at hr
   obtain⟨rfl,rfl⟩:=hr
   obtain⟨q1,q2,_⟩:=Az.1 hl
   simp only [Bool.or_eq_true,Nat.blt_eq]at hb
   simp only [h1,h2]
   exact⟨q1,⟨q2.1,hb⟩,q2.2⟩
  ·cases h
 ·split at h
  ·rename_i ag n h1
   obtain⟨hb,hr⟩:=CO h
   simp only [Prod.mk.injEq]at hr
   obtain⟨rfl,rfl⟩:=hr
   obtain⟨q1,q2,_⟩:=Az.1 hl
   simp only [Bool.or_eq_true,Nat.blt_eq]at hb
   simp only [h1]
   exact⟨q1,⟨q2.1,hb⟩,q2.2⟩
  ·cases h
 ·cases h
def uh:BinOp→IntKind→IntKind→Bool
 | .shl,_,_ | .shr,_,_=>true
 | _,k,k'=>k==k'
theorem kP {op:BinOp} {k k':IntKind} (h:uh op k k'=true):Ov op k k':=by
 unfold uh at h
 unfold Ov
 cases op<;>simp_all
def qz (op:BinOp) (b:Int):List Prop:=
 match op with
 | .quo | .rem =>[b ≠ 0]
 | .shl | .shr =>[0≤b]
 | _=>[]
theorem jf {op:BinOp} {k:IntKind} {a b:Int} (h:BE (qz op b)):(PT op k a b).1:=by
 cases op<;>simp_all [qz,PT,BE]
def qA (op:BinOp) (a b:List UInt8):Option (List Prop):=
 match op with
 | .add =>some [a.length+b.length≤maxLen]
 | .eql | .neq | .lss | .leq | .gtr | .geq =>some []
 | _=>none
theorem jg {op:BinOp} {a b:List UInt8} {l:List Prop} (h:qA op a b=some l) (hl:BE l):(PU op a b).1:=by
 cases op<;>simp_all [qA,PU]<;>(subst h;exact hl.1)
def qB (P:Program) (op:BinOp) (t:TypeId) (kc:Bool) (l:List Prop):V→V→CV
 | .c (.int k a), .c (.int k' b)=>Vl (uh op k k') (l++qz op b, .c (PT op k a b).2)
 | .c (.str a), .c (.str b)=>match qA op a b with
   | some c=>some (l++c, .c (PU op a b).2)
   | none=>none
 | .agg cs, .agg ds=>match op with
   | .eql =>Vl (iR P t cs ds) (l, .c (.bool (Fo cs ds)))
   | .neq =>Vl (iR P t cs ds) (l, .c (.bool !(Fo cs ds)))
   | _=>none
 | x,y=>some (l++[(YT P op t kc x y).1],(YT P op t kc x y).2)
def eM (P:Program) (op:BinOp) (t:TypeId) (k:Bool) (x y:V):Prop×V:=
 match x,y with
 | .agg cs, .agg ds=>iS P op t cs ds
 | x,y=>YT P op t k x y
theorem eN {P:Program} {op:BinOp} {t:TypeId} {kc:Bool} {l l':List Prop} {x y v:V} (h:qB P op t kc l x y=some (l',v)) (hl:BE l'):BE l∧(eM P op t kc x y).1∧(eM P op t kc x y).2=v:=by
 unfold qB at h
 split at h
 ·obtain⟨hb,hr⟩:=CO h
  simp only [Prod.mk.injEq]at hr
  obtain⟨rfl,rfl⟩:=hr
  obtain⟨q1,q2⟩:=Az.1 hl
  exact⟨q1,⟨kP hb,jf q2⟩,rfl⟩
 ·split at h
  ·rename_i c hc
   simp only [Option.some.injEq,Prod.mk.injEq]at h
   obtain⟨rfl,rfl⟩:=h
   obtain⟨q1,q2⟩:=Az.1 hl
   exact⟨q1,jg hc q2,rfl⟩
  ·cases h
 ·split at h
  ·obtain⟨hb,hr⟩:=CO h
   simp only [Prod.mk.injEq]at hr
   exact⟨hr.1▸hl,hb,hr.2⟩
  ·obtain⟨hb,hr⟩:=CO h
   simp only [Prod.mk.injEq]at hr
   exact⟨hr.1▸hl,hb,hr.2⟩
  ·cases h
 ·rename_i hne
  simp only [Option.some.injEq,Prod.mk.injEq]at h
  obtain⟨rfl,rfl⟩:=h
  obtain⟨q1,q2⟩:=Az.1 hl
  have e:eM P op t kc x y=YT P op t kc x y:=by
   unfold eM
   split<;>first | rfl | simp_all
  rw [e]
  exact⟨q1,q2.1,rfl⟩
def qC (P:Program) (t:TypeId) (st:St) (l:List Prop) (x y:V):CV:=
 match y with
 | .c (.int _ i)=>match x with
   | .c (.sl len cs)=>match Mi P t with
     | some (_,n)=>some (l++[0≤i∧i<len], .c (.iptr cs (i.toNat*n)))
     | none=>none
   | .c (.osl id)=>match Mi P t,st.look id with
     | some (_,n),some e=>match e.row with
       | some (_,_,len)=>some (l++[0≤i∧i<len], .c (.ptr id (i.toNat*n)))
       | none=>none
     | _,_=>none
   | .c (.bsl id off len)=>match Mi P t with
     | some (_,n)=>some (l++[0≤i∧i<len], .c (.ptr id (off+i.toNat*n)))
     | none=>none
   | .c (.ptr id off)=>match NH P t with
     | some (k,_,n)=>some (l++[0≤i∧i<k], .c (.ptr id (off+i.toNat*n)))
     | none=>none
   | .c (.iptr cs off)=>match NH P t with
     | some (k,_,n)=>some (l++[0≤i∧i<k], .c (.iptr cs (off+i.toNat*n)))
     | none=>none
   | _=>none
 | _=>none
theorem eO {P:Program} {t:TypeId} {st:St} {l l':List Prop} {x y v:V} (h:qC P t st l x y=some (l',v)) (hl:BE l'):BE l∧(HM P t st x y).1∧(HM P t st x y).2=v:=by
 unfold qC at h
 unfold HM
 split at h
 ·split at h
  ·split at h
   ·rename_i h1
    simp only [Option.some.injEq,Prod.mk.injEq]at h
    obtain⟨rfl,rfl⟩:=h
    obtain⟨q1,q2,_⟩:=Az.1 hl
    simp only [h1];exact⟨q1,q2,trivial⟩
   ·cases h
  ·split at h
   ·rename_i h1 h2
    split at h
    ·rename_i h3
     simp only [Option.some.injEq,Prod.mk.injEq]at h
     obtain⟨rfl,rfl⟩:=h
     obtain⟨q1,q2,_⟩:=Az.1 hl
     simp only [h1,h2,h3];exact⟨q1,q2,trivial⟩
    ·cases h
   ·cases h
  ·split at h
   ·rename_i h1
    simp only [Option.some.injEq,Prod.mk.injEq]at h
    obtain⟨rfl,rfl⟩:=h
    obtain⟨q1,q2,_⟩:=Az.1 hl
    simp only [h1];exact⟨q1,q2,trivial⟩
   ·cases h
  ·split at h
   ·rename_i h1
    simp only [Option.some.injEq,Prod.mk.injEq]at h
    obtain⟨rfl,rfl⟩:=h
    obtain⟨q1,q2,_⟩:=Az.1 hl
    simp only [h1];exact⟨q1,q2,trivial⟩
   ·cases h
  ·split at h
   ·rename_i h1
    simp only [Option.some.injEq,Prod.mk.injEq]at h
    obtain⟨rfl,rfl⟩:=h
    obtain⟨q1,q2,_⟩:=Az.1 hl
    simp only [h1];exact⟨q1,q2,trivial⟩
   ·cases h
  ·cases h
 ·cases h
def qD (P:Program) (t:TypeId) (l:List Prop) (x:V) (lo hi:Option V):CV:=
 match x with
 | .c (.str s)=>match YZ s.length lo hi with
   | some (a,h)=>Vl (LA P t) (l++[0≤a∧a≤h∧h≤s.length], .c (.str ((s.drop a.toNat).take (h.toNat - a.toNat))))
   | none=>none
 | .c (.sl len cs)=>match Mi P t,YZ len lo hi with
   | some (_,n),some (a,h)=>some (l++[0≤a∧a≤h∧h≤len,cs.length=len*n], .c (.sl (h.toNat - a.toNat) ((cs.drop (a.toNat*n)).take ((h.toNat - a.toNat)*n))))
   | _,_=>none
 | .c (.ptr id off)=>match NH P t with
   | some (k,_,n)=>match YZ k lo hi with
     | some (a,h)=>some (l++[0≤a∧a<k∧a≤h∧h≤k], .c (.bsl id (off+a.toNat*n) (h.toNat - a.toNat)))
     | none=>none
   | none=>none
 | _=>none
theorem eP {P:Program} {t:TypeId} {l l':List Prop} {x v:V} {lo hi:Option V} (h:qD P t l x lo hi=some (l',v)) (hl:BE l'):BE l∧(O8 P t x lo hi).1∧(O8 P t x lo hi).2=v:=by
 unfold qD at h
 unfold O8
 split at h
 ·split at h
  ·rename_i a hh h1
   obtain⟨hb,hr⟩:=CO h
   simp only [Prod.mk.injEq]at hr
   obtain⟨rfl,rfl⟩:=hr
   obtain⟨q1,q2,_⟩:=Az.1 hl
   simp only [h1];exact⟨q1,⟨hb,q2⟩,trivial⟩
  ·cases h
 ·split at h
  ·rename_i h1 h2
   simp only [Option.some.injEq,Prod.mk.injEq]at h
   obtain⟨rfl,rfl⟩:=h
   obtain⟨q1,q2,q3,_⟩:=Az.1 hl
   simp only [h1,h2];exact⟨q1,⟨q2.1,q2.2.1,q2.2.2,q3⟩,trivial⟩
  ·cases h
 ·split at h
  ·rename_i h1
   split at h
   ·rename_i h2
    simp only [Option.some.injEq,Prod.mk.injEq]at h
    obtain⟨rfl,rfl⟩:=h
    obtain⟨q1,q2,_⟩:=Az.1 hl
    simp only [h1,h2];exact⟨q1,q2,trivial⟩
   ·cases h
  ·cases h
 ·cases h
def Zb (st:St) (g:Bool):Option Operand→List Prop×Option V
 | none=>([],none)
 | some x=>((CQ st g x).1,some (CQ st g x).2)
theorem nH {st:St} {g:Bool}: ∀ {x:Option Operand},BE (Zb st g x).1→(I5 st g x).1∧(I5 st g x).2=(Zb st g x).2
 | none,_=>⟨trivial,rfl⟩
 | some x,hl=>by
   have:=Sq (st:=st) (g:=g) (x:=x) hl
   exact⟨this.1,by simp only [I5,Zb,this.2]⟩
def qE (P:Program) (s:TypeId) (f:Nat) (l:List Prop):V→CV
 | .c (.ptr id off)=>match nu P s f with
   | some (o,_,n)=>Vl (Nat.blt 0 n) (l, .c (.ptr id (off+o)))
   | none=>none
 | .c (.iptr cs off)=>match nu P s f with
   | some (o,_,n)=>Vl (Nat.blt 0 n) (l, .c (.iptr cs (off+o)))
   | none=>none
 | _=>none
theorem eQ {P:Program} {s:TypeId} {f:Nat} {l l':List Prop} {x v:V} (h:qE P s f l x=some (l',v)):l=l'∧(HL P s f x).1∧(HL P s f x).2=v:=by
 unfold qE at h
 unfold HL
 split at h
 ·split at h
  ·rename_i h1
   obtain⟨hb,hr⟩:=CO h
   simp only [Prod.mk.injEq]at hr
   simp only [h1];exact⟨hr.1,by simpa using hb,hr.2⟩
  ·cases h
 ·split at h
  ·rename_i h1
   obtain⟨hb,hr⟩:=CO h
   simp only [Prod.mk.injEq]at hr
   simp only [h1];exact⟨hr.1,by simpa using hb,hr.2⟩
  ·cases h
 ·cases h
def eR (P:Program) (t:TypeId) (f:Nat) (l:List Prop):V→CV
 | .agg cs=>match nu P t f with
   | some (o,ag,n)=>Vl (Nat.ble (o+n) cs.length&&(ag||Nat.blt 0 n)) (l,O6 ag o n cs)
   | none=>none
 | _=>none
theorem Zc {P:Program} {s:TypeId} {f:Nat} {l l':List Prop} {x v:V} (h:eR P s f l x=some (l',v)):l=l'∧(PW P s f x).1∧(PW P s f x).2=v:=by
 unfold eR at h
 unfold PW
 split at h
 ·split at h
  ·rename_i h1
   obtain⟨hb,hr⟩:=CO h
   simp only [Prod.mk.injEq]at hr
   simp only [Bool.and_eq_true,Nat.ble_eq,Bool.or_eq_true,Nat.blt_eq]at hb
   simp only [h1];exact⟨hr.1,hb,hr.2⟩
  ·cases h
 ·cases h
def kQ (P:Program) (t:TypeId) (l:List Prop) (x y:V) (u:Option V):CV:=
 match y with
 | .c (.int _ i)=>match x with
   | .c (.str s)=>Vl (LA P t) (l++[0≤i∧i<s.length], .c (.int .u8 (s.getD i.toNat 0).toNat))
   | .agg cs=>match NH P t with
     | some (k,e,n)=>match Vg P e,u with
       | some (ag,_),some u=>Vl (Nat.blt 0 n) (l++[(0≤i∧i<k)∧i.toNat*n+n≤cs.length∧O6 ag (i.toNat*n) n cs=u],u)
       | _,_=>none
     | none=>none
   | _=>none
 | _=>none
theorem a7 {P:Program} {t:TypeId} {l l':List Prop} {x y v:V} {u:Option V} (h:kQ P t l x y u=some (l',v)) (hl:BE l'):BE l∧(PX P t x y).1∧(PX P t x y).2=v:=by
 unfold kQ at h
 unfold PX
 split at h
 ·split at h
  ·obtain⟨hb,hr⟩:=CO h
   simp only [Prod.mk.injEq]at hr
   obtain⟨rfl,rfl⟩:=hr
   obtain⟨q1,q2,_⟩:=Az.1 hl
   exact⟨q1,⟨hb,q2⟩,rfl⟩
  ·split at h
   ·rename_i h1
    split at h
    ·rename_i h2
     obtain⟨hb,hr⟩:=CO h
     simp only [Prod.mk.injEq]at hr
     obtain⟨rfl,rfl⟩:=hr
     obtain⟨q1,q2,_⟩:=Az.1 hl
     simp only [h1,h2]
     exact⟨q1,⟨q2.1.1,q2.1.2,q2.2.1,by simpa using hb⟩,q2.2.2⟩
    ·cases h
   ·cases h
  ·cases h
 ·cases h
def ui (op:UnOp) (l:List Prop):V→CV
 | .c (.int k n)=>match op with
   | .neg =>some (l, .c (.int k (k.wrap (0 - n))))
   | .xor =>some (l, .c (.int k (kE k (if k.signed then -1 else k.max) n)))
   | _=>none
 | .c (.bool b)=>match op with
   | .not =>some (l, .c (.bool !b))
   | _=>none
 | _=>none
theorem jh {op:UnOp} {l l':List Prop} {x v:V} (h:ui op l x=some (l',v)):l=l'∧(po op x).1∧(po op x).2=v:=by
 unfold ui at h
 unfold po
 split at h<;>(try split at h)<;>simp_all
def kR (P:Program) (src dst:TypeId) (st:St) (l:List Prop):V→CV
 | .c (.int _ n)=>match gE P dst with
   | some k=>Vl (qm P src) (l, .c (.int k (k.wrap n)))
   | none=>none
 | .c (.str s)=>Vl (LA P src&&LA P dst) (l, .c (.str s))
 | x=>some (l++[(PV P src dst st x).1],(PV P src dst st x).2)
theorem a8 {P:Program} {src dst:TypeId} {st:St} {l l':List Prop} {x v:V} (h:kR P src dst st l x=some (l',v)) (hl:BE l'):BE l∧(PV P src dst st x).1∧(PV P src dst st x).2=v:=by
 unfold kR at h
 split at h
 ·unfold PV
  split at h
  ·rename_i h1
   obtain⟨hb,hr⟩:=CO h
   simp only [Prod.mk.injEq]at hr
   simp only [h1];exact⟨hr.1▸hl,hb,hr.2⟩
  ·cases h
 ·unfold PV
  obtain⟨hb,hr⟩:=CO h
  simp only [Prod.mk.injEq]at hr
  exact⟨hr.1▸hl,by simpa using hb,hr.2⟩
 ·simp only [Option.some.injEq,Prod.mk.injEq]at h
  obtain⟨rfl,rfl⟩:=h
  obtain⟨q1,q2,_⟩:=Az.1 hl
  exact⟨q1,q2,rfl⟩
def qF (P:Program) (t:TypeId) (st:St) (l:List Prop):V→CV
 | .c (.str s)=>Vl (LA P t) (l, .c (.int .i64 s.length))
 | .c (.sl len _)=>Vl (Mk P t) (l, .c (.int .i64 len))
 | .c (.osl id)=>match st.look id with
   | some e=>match e.row with
     | some (_,_,len)=>Vl (Mk P t) (l, .c (.int .i64 len))
     | none=>none
   | none=>none
 | x=>some (l++[(Xm P t st x).1],(Xm P t st x).2)
theorem eT {P:Program} {t:TypeId} {st:St} {l l':List Prop} {x v:V} (h:qF P t st l x=some (l',v)) (hl:BE l'):BE l∧(Xm P t st x).1∧(Xm P t st x).2=v:=by
 unfold qF at h
 split at h
 ·obtain⟨hb,hr⟩:=CO h
  simp only [Prod.mk.injEq]at hr
  exact⟨hr.1▸hl,hb,hr.2⟩
 ·obtain⟨hb,hr⟩:=CO h
  simp only [Prod.mk.injEq]at hr
  exact⟨hr.1▸hl,hb,hr.2⟩
 ·unfold Xm
  split at h
  ·rename_i h1
   split at h
   ·rename_i h2
    obtain⟨hb,hr⟩:=CO h
    simp only [Prod.mk.injEq]at hr
    simp only [h1,h2]
    exact⟨hr.1▸hl,hb,hr.2⟩
   ·cases h
  ·cases h
 ·simp only [Option.some.injEq,Prod.mk.injEq]at h
  obtain⟨rfl,rfl⟩:=h
  obtain⟨q1,q2,_⟩:=Az.1 hl
  exact⟨q1,q2,rfl⟩
def nI (P:Program) (st:St) (g:Bool) (op:Op):Option V→CV
 | none=>some ([(Mm P st g op).1],(Mm P st g op).2)
 | some u=>some ([(Mm P st g op).1∧(Mm P st g op).2=u],u)
theorem RK {P:Program} {st:St} {g:Bool} {u:Option V} {op:Op} {l:List Prop} {v:V} (h:nI P st g op u=some (l,v)) (hl:BE l):(Mm P st g op).1∧(Mm P st g op).2=v:=by
 cases u<;>simp only [nI,Option.some.injEq,Prod.mk.injEq]at h<;>obtain⟨rfl,rfl⟩:=h
 ·exact⟨hl.1,rfl⟩
 ·exact hl.1
def tY (P:Program) (st:St) (g:Bool) (u:Option V):Op→CV
 | .move x=>some (CQ st g x)
 | .assign x=>some (CQ st g x)
 | .pick c a b=>match (CQ st g c).2 with
   | .c (.bool p)=>pp (CQ st g c).1 p (st.ev a) (st.ev b)
   | _=>none
 | .load t x=>match u with
   | none=>gL P t st (CQ st g x).1 (CQ st g x).2
   | some u=>kO P t st (CQ st g x).1 u (CQ st g x).2
 | .binOp op t x y _=>qB P op t (Fm x||Fm y) ((CQ st g x).1++(CQ st g y).1) (CQ st g x).2 (CQ st g y).2
 | .unOp op _ x=>ui op (CQ st g x).1 (CQ st g x).2
 | .convert src dst x=>kR P src dst st (CQ st g x).1 (CQ st g x).2
 | .slice t x lo hi none=>qD P t ((CQ st g x).1++((Zb st g lo).1++(Zb st g hi).1)) (CQ st g x).2 (Zb st g lo).2 (Zb st g hi).2
 | .fieldAddr s x f=>qE P s f (CQ st g x).1 (CQ st g x).2
 | .field t x f=>eR P t f (CQ st g x).1 (CQ st g x).2
 | .indexAddr t x i=>qC P t st ((CQ st g x).1++(CQ st g i).1) (CQ st g x).2 (CQ st g i).2
 | .index t x i=>kQ P t ((CQ st g x).1++(CQ st g i).1) (CQ st g x).2 (CQ st g i).2 u
 | .call c=>match c.callee,c.args.toList,c.argTypes.toList with
   | .builtin .len,[x],[t]=>qF P t st (CQ st g x).1 (CQ st g x).2
   | _,_,_=>nI P st g (.call c) none
 | op=>nI P st g op u
theorem Yf {P:Program} {st:St} {g:Bool} {u:Option V} {op:Op} {l:List Prop} {v:V} (h:tY P st g u op=some (l,v)) (hl:BE l):(Mm P st g op).1∧(Mm P st g op).2=v:=by
 have A: ∀ x,BE (CQ st g x).1→(st.arg g x).1∧(st.arg g x).2=(CQ st g x).2:=fun x hx=>Sq hx
 have O: ∀ x,BE (Zb st g x).1→(I5 st g x).1∧(I5 st g x).2=(Zb st g x).2:=fun x hx=>nH hx
 cases op<;>simp only [tY]at h<;>try exact RK h hl
 case move x=>
  simp only [Option.some.injEq]at h
  have:=A x (by rw [h];exact hl)
  rw [h]at this
  simpa only [Mm,rd] using this
 case assign x=>
  simp only [Option.some.injEq]at h
  have:=A x (by rw [h];exact hl)
  rw [h]at this
  simpa only [Mm,rd] using this
 case pick c a b=>
  split at h
  ·rename_i p hp
   unfold pp at h
   split at h
   ·rename_i ca q cb r h1 h2
    simp only [Option.some.injEq,Prod.mk.injEq]at h
    obtain⟨rfl,rfl⟩:=h
    obtain⟨q1,q2⟩:=Az.1 hl
    obtain⟨q2,q3⟩:=Az.1 q2
    obtain⟨k1,k2⟩:=A c q1
    rw [hp]at k2
    simp only [Mm,rd,Sc,k2,gG,Us h1,Us h2]
    exact⟨⟨k1,V6 q2,V6 q3⟩,trivial⟩
   ·cases h
  ·cases h
 case load t x=>
  split at h
  ·have:=Ut h
   obtain⟨k1,k2⟩:=A x (this.1▸hl)
   simp only [Mm,rd,Sc,k2]
   exact⟨⟨k1,this.2.1⟩,this.2.2⟩
  ·have:=a6 h hl
   obtain⟨k1,k2⟩:=A x this.1
   simp only [Mm,rd,Sc,k2]
   exact⟨⟨k1,this.2.1⟩,this.2.2⟩
 case binOp op t x y ty=>
  have:=eN h hl
  obtain⟨q1,q2⟩:=Az.1 this.1
  obtain⟨k1,k2⟩:=A x q1
  obtain⟨k3,k4⟩:=A y q2
  have e:Mm P st g (.binOp op t x y ty)=((st.arg g x).1∧(st.arg g y).1∧(eM P op t (Fm x||Fm y) (st.arg g x).2 (st.arg g y).2).1,(eM P op t (Fm x||Fm y) (st.arg g x).2 (st.arg g y).2).2):=by
   simp only [Mm]
   unfold eM
   split
   ·rename_i cs ds e1 e2;simp only [e1,e2]
   ·rename_i hne
    split
    ·rename_i cs ds e1 e2;exact(hne cs ds e1 e2).elim
    ·rfl
  rw [e,k2,k4]
  exact⟨⟨k1,k3,this.2.1⟩,this.2.2⟩
 case unOp op t x=>
  have:=jh h
  obtain⟨k1,k2⟩:=A x (this.1▸hl)
  simp only [Mm,rd,Sc,k2]
  exact⟨⟨k1,this.2.1⟩,this.2.2⟩
 case convert s d x=>
  have:=a8 h hl
  obtain⟨k1,k2⟩:=A x this.1
  simp only [Mm,rd,Sc,k2]
  exact⟨⟨k1,this.2.1⟩,this.2.2⟩
 case slice t x lo hi mx=>
  cases mx with
  | some m=>exact RK h hl
  | none=>
    have:=eP h hl
    obtain⟨q1,q2⟩:=Az.1 this.1
    obtain⟨q2,q3⟩:=Az.1 q2
    obtain⟨k1,k2⟩:=A x q1
    obtain⟨k3,k4⟩:=O lo q2
    obtain⟨k5,k6⟩:=O hi q3
    simp only [Mm,rd,Sc,k2,k4,k6]
    exact⟨⟨k1,k3,k5,this.2.1⟩,this.2.2⟩
 case fieldAddr s x f=>
  have:=eQ h
  obtain⟨k1,k2⟩:=A x (this.1▸hl)
  simp only [Mm,rd,Sc,k2]
  exact⟨⟨k1,this.2.1⟩,this.2.2⟩
 case field s x f=>
  have:=Zc h
  obtain⟨k1,k2⟩:=A x (this.1▸hl)
  simp only [Mm,rd,Sc,k2]
  exact⟨⟨k1,this.2.1⟩,this.2.2⟩
 case indexAddr t x y=>
  have:=eO h hl
  obtain⟨q1,q2⟩:=Az.1 this.1
  obtain⟨k1,k2⟩:=A x q1
  obtain⟨k3,k4⟩:=A y q2
  simp only [Mm,rd,Sc,k2,k4]
  exact⟨⟨k1,k3,this.2.1⟩,this.2.2⟩
 case index t x y=>
  have:=a7 h hl
  obtain⟨q1,q2⟩:=Az.1 this.1
  obtain⟨k1,k2⟩:=A x q1
  obtain⟨k3,k4⟩:=A y q2
  simp only [Mm,rd,Sc,k2,k4]
  exact⟨⟨k1,k3,this.2.1⟩,this.2.2⟩
 case call c=>
  split at h
  ·rename_i x t h1 h2 h3
   have:=eT h hl
   obtain⟨k1,k2⟩:=A x this.1
   simp only [Mm,rd,h1,h2,h3,Y1,Sc,k2]
   exact⟨⟨k1,this.2.1⟩,this.2.2⟩
  ·exact RK h hl
def pq (P:Program) (st:St) (g:Bool) (u:Option V) (op:Op):CV:=
 match u with
 | none=>tY P st g none op
 | some u=>match tY P st g (some u) op with
   | some (l,v)=>some (l++[v=u],u)
   | none=>none
theorem Ho {P:Program} {st:St} {g:Bool} {u:Option V} {op:Op} {l:List Prop} {v:V} (h:pq P st g u op=some (l,v)) (hl:BE l):(Mm P st g op).1∧(Mm P st g op).2=v:=by
 cases u with
 | none=>simp only [pq]at h;exact Yf h hl
 | some u=>
   simp only [pq]at h
   split at h
   ·rename_i l1 v1 h1
    simp only [Option.some.injEq,Prod.mk.injEq]at h
    obtain⟨rfl,rfl⟩:=h
    obtain⟨q1,q2,_⟩:=Az.1 hl
    obtain⟨k1,k2⟩:=Yf h1 q1
    exact⟨k1,k2.trans q2⟩
   ·cases h
end Go.PL
namespace Go.PL
open Go Go.RowKit
inductive Stp where
 | a
 | v (x:V)
 | c (r:V)
 | e (len:Nat) (cs:List C)
def ji (s:Stp) (len:Nat) (cs:List C) (k:Nat→List C→List Prop→Option (List Prop×St)):Option (List Prop×St):=
 match s with
 | .e len' cs'=>k len' cs' [len=len'∧cs=cs']
 | _=>k len cs []
theorem RL {s:Stp} {len:Nat} {cs:List C} {k:Nat→List C→List Prop→Option (List Prop×St)} {r:List Prop×St} (h:ji s len cs k=some r):
 ∃ len' cs' l,k len' cs' l=some r∧(BE l→len=len'∧cs=cs'):=by
 cases s<;>simp only [ji]at h<;>first
  | exact⟨_,_,_,h,fun q=>q.1⟩
  | exact⟨_,_,_,h,fun _=>⟨rfl,rfl⟩⟩
def kS (len:Nat):Option (TypeId×Nat×Nat)→Option (TypeId×Nat×Nat)
 | some (E,n,_)=>some (E,n,len)
 | none=>none
def RM (id:CI) (len:Nat):List C3→Prop
 | []=>True
 | e::es=>match e.id==id with
   | true=>kS len e.row=e.row∧RM id len es
   | false=>RM id len es
def St.setR (st:St) (id:CI) (cs:List C) (q:Bool) (len:Nat):St:={st with so:=st.so.map fun e=>match e.id==id with
 | true=>⟨e.id,kS len e.row,cs,e.pu&&q⟩
 | false=>e}
theorem gM {st:St} {id:CI} {cs:List C} {q:Bool} {len:Nat} (h:RM id len st.so):st.setR id cs q len=st.setCs id cs q:=by
 have: ∀ l:List C3,RM id len l→(l.map fun e=>match e.id==id with
  | true=>(⟨e.id,kS len e.row,cs,e.pu&&q⟩:C3)
  | false=>e)=l.map fun e=>if(e.id==id)=true then(⟨e.id,e.row,cs,e.pu&&q⟩:C3)else e:=by
  intro l
  induction l with
  | nil=>intro _;rfl
  | cons e l ih=>
    intro h
    simp only [RM]at h
    simp only [List.map_cons]
    cases hb:e.id==id with
    | true=>rw [hb]at h;simp only at h;rw [ih h.2,h.1];simp
    | false=>rw [hb]at h;simp only at h;rw [ih h];simp
 unfold St.setR St.setCs
 rw [this st.so h]
def eU (P:Program) (st:St) (s:Stp) (d:Option Nat) (T:TypeId) (l:List Prop) (x y:V):Option (List Prop×St):=
 match x,y.cells,Vg P T with
 | .c (.ptr id off),some cs,some (_,n)=>match st.look id with
   | some e=>match s with
     | .e len' cs'=>Vl (cs.length==n) (l++[off+n≤e.cs.length∧e.cs.take off++cs++e.cs.drop (off+cs.length)=cs',RM id len' st.so],(st.setR id cs' (Bw cs) len').put d .undef)
     | _=>Vl (cs.length==n&&Nat.ble (off+n) e.cs.length) (l,(st.setCs id (e.cs.take off++cs++e.cs.drop (off+cs.length)) (Bw cs)).put d .undef)
   | none=>none
 | _,_,_=>none
theorem Sr {P:Program} {st st':St} {s:Stp} {d:Option Nat} {T:TypeId} {l l':List Prop} {x y:V} (h:eU P st s d T l x y=some (l',st')) (hl:BE l'):
 BE l∧(P1 P st T x y).1∧(P1 P st T x y).2.put d .undef =st':=by
 unfold eU at h
 unfold P1
 split at h
 ·rename_i id off cs ag n h1 h2
  split at h
  ·rename_i e he
   split at h
   ·rename_i len cs'
    obtain⟨hb,hr⟩:=CO h
    simp only [Prod.mk.injEq]at hr
    obtain⟨rfl,rfl⟩:=hr
    obtain⟨q1,q2,q3,_⟩:=Az.1 hl
    simp only [h1,h2,he]
    exact⟨q1,⟨by simpa using hb,q2.1⟩,by rw [q2.2,gM q3]⟩
   ·obtain⟨hb,hr⟩:=CO h
    simp only [Prod.mk.injEq]at hr
    obtain⟨rfl,rfl⟩:=hr
    simp only [Bool.and_eq_true,Nat.ble_eq,beq_iff_eq]at hb
    simp only [h1,h2,he]
    exact⟨hl,hb,trivial⟩
  ·cases h
 ·cases h
def qG (st:St) (n:Nat):V→Option (List Prop×Nat×List C×Bool)
 | .c (.sl m cs)=>some ([cs.length=m*n],m,cs,true)
 | .c (.osl id)=>match st.look id with
   | some e=>match e.row with
     | some (_,n',m)=>Vl (n'==n) ([],m,e.cs,e.pu)
     | none=>none
   | none=>none
 | _=>none
theorem eV {st:St} {n:Nat} {x:V} {l:List Prop} {r:Nat×List C×Bool} (h:qG st n x=some (l,r)) (hl:BE l):X4 st n x=some r:=by
 unfold qG at h
 unfold X4
 split at h
 ·simp only [Option.some.injEq,Prod.mk.injEq]at h
  obtain⟨rfl,rfl⟩:=h
  exact if_pos hl.1
 ·split at h
  ·rename_i h1
   split at h
   ·rename_i h2
    obtain⟨hb,hr⟩:=CO h
    simp only [Prod.mk.injEq]at hr
    simp only [h1,h2]
    rw [if_pos (by simpa using hb)]
    exact congrArg some hr.2
   ·cases h
  ·cases h
 ·cases h
def Zd (P:Program) (st:St) (s:Stp) (d:Nat) (t:TypeId) (l:List Prop) (u x:V):Option (List Prop×St):=
 match u,Pa P t with
 | .c (.osl id),some (E,n,by')=>match st.look id,qG st n x with
   | some e,some (l2,m,cs,q)=>match e.row with
     | some (E',n',len)=>match E'==E&&n'==n&&Nat.blt 0 n with
       | true=>ji s (len+m) (e.cs++cs) fun len' cs' l3=>
         some (l++(l2++(l3++[(len+m)*by'≤140737488355328∧len+m≤maxLen])),(st.new ⟨id,some (E,n,len'),cs',e.pu&&q⟩).put (some d) (.c (.osl id)))
       | false=>none
     | none=>none
   | _,_=>none
 | _,_=>none
theorem Xs {P:Program} {st st':St} {s:Stp} {d:Nat} {t:TypeId} {l l':List Prop} {u x:V} (h:Zd P st s d t l u x=some (l',st')) (hl:BE l'):
 BE l∧(NL P st d t u x).1∧(NL P st d t u x).2=st':=by
 unfold Zd at h
 unfold NL
 split at h
 ·rename_i id E n by' h1
  split at h
  ·rename_i e l2 m cs q h2 h3
   split at h
   ·rename_i E' n' len h4
    split at h
    ·rename_i hb
     obtain⟨len',cs',l3,hk,ht⟩:=RL h
     simp only [Option.some.injEq,Prod.mk.injEq]at hk
     obtain⟨rfl,rfl⟩:=hk
     obtain⟨q1,q2⟩:=Az.1 hl
     obtain⟨q2,q3⟩:=Az.1 q2
     obtain⟨q3,q4,_⟩:=Az.1 q3
     obtain⟨rfl,rfl⟩:=ht q3
     simp only [Bool.and_eq_true,beq_iff_eq,Nat.blt_eq]at hb
     simp only [h1,h2,eV h3 q2,h4]
     exact⟨q1,⟨hb.1.1,hb.1.2,hb.2,q4⟩,trivial⟩
    ·cases h
   ·cases h
  ·cases h
 ·cases h
def kT (P:Program) (st:St) (s:Stp) (d:Nat) (t:TypeId) (l:List Prop) (x y:V):Option (List Prop×St):=
 match x,y,s with
 | .c (.bsl id off len), .c (.bsl id2 off2 len2), .e len' cs'=>match Mi P t with
   | some (_,1)=>match st.look id,st.look id2 with
     | some e,some e2=>Vl (Nat.ble (off+Nat.min len2 len) e.cs.length&&Nat.ble (off2+Nat.min len2 len) e2.cs.length) (l++[e.cs.take off++(e2.cs.drop off2).take (Nat.min len2 len)++e.cs.drop (off+((e2.cs.drop off2).take (Nat.min len2 len)).length)=cs',RM id len' st.so],
      (st.setR id cs' (Bw ((e2.cs.drop off2).take (Nat.min len2 len))) len').put (some d) (.c (.int .i64 (Nat.min len2 len:Nat))))
     | _,_=>none
   | _=>none
 | _,_,_=>none
theorem ba {P:Program} {st st':St} {s:Stp} {d:Nat} {t:TypeId} {l l':List Prop} {x y:V} (h:kT P st s d t l x y=some (l',st')) (hl:BE l'):
 BE l∧(Uj P st d t x y).1∧(Uj P st d t x y).2=st':=by
 unfold kT at h
 unfold Uj
 split at h
 ·rename_i id off len id2 off2 len2 len' cs'
  split at h
  ·rename_i E h0
   split at h
   ·rename_i e e2 h1 h2
    obtain⟨hb,hr⟩:=CO h
    simp only [Prod.mk.injEq]at hr
    obtain⟨rfl,rfl⟩:=hr
    obtain⟨q1,q2,q3,_⟩:=Az.1 hl
    simp only [Bool.and_eq_true,Nat.ble_eq]at hb
    simp only [h0,h1,h2]
    exact⟨q1,hb,by rw [q2,gM q3]⟩
   ·cases h
  ·cases h
 ·cases h
def kU (P:Program) (st:St) (s:Stp) (d:Nat) (t:TypeId) (p:List Prop) (l c:V):Option (List Prop×St):=
 match l,c,Pa P t with
 | .c (.int _ l), .c (.int _ c),some (E,n,by')=>match VH P E with
   | some z=>match z.length==n&&Nat.blt 0 n with
     | true=>ji s l.toNat (Fa z l.toNat) fun len' cs' l3=>some (p++(l3++[0≤l∧l≤c∧c*by'≤140737488355328∧c≤maxLen]),(st.new ⟨d::st.pre,some (E,n,len'),cs',true⟩).put (some d) (.c (.osl (d::st.pre))))
     | false=>none
   | none=>none
 | _,_,_=>none
theorem bb {P:Program} {st st':St} {s:Stp} {d:Nat} {t:TypeId} {p l':List Prop} {l c:V} (h:kU P st s d t p l c=some (l',st')) (hl:BE l'):
 BE p∧(Uk P st d t l c).1∧(Uk P st d t l c).2=st':=by
 unfold kU at h
 unfold Uk
 split at h
 ·rename_i h1
  split at h
  ·rename_i h2
   split at h
   ·rename_i hb
    obtain⟨len',cs',l3,hk,ht⟩:=RL h
    simp only [Option.some.injEq,Prod.mk.injEq]at hk
    obtain⟨rfl,rfl⟩:=hk
    obtain⟨q1,q2⟩:=Az.1 hl
    obtain⟨q2,q3,_⟩:=Az.1 q2
    obtain⟨rfl,rfl⟩:=ht q2
    simp only [Bool.and_eq_true,beq_iff_eq,Nat.blt_eq]at hb
    simp only [h1,h2]
    exact⟨q1,⟨q3.1,q3.2.1,q3.2.2.1,q3.2.2.2,hb.1,hb.2⟩,trivial⟩
   ·cases h
  ·cases h
 ·cases h
def Pd (st:St) (g:Bool) (ps:List (Nat×Operand)):List Prop×List (Nat×V):=
 match ps with
 | []=>([],[])
 | (i,x)::r=>((CQ st g x).1++(Pd st g r).1,(i,(CQ st g x).2)::(Pd st g r).2)
theorem Yg {st:St} {g:Bool}: ∀ {ps:List (Nat×Operand)},BE (Pd st g ps).1→(st.parts g ps).1∧(st.parts g ps).2=(Pd st g ps).2
 | [],_=>⟨trivial,rfl⟩
 | (i,x)::r,hl=>by
   obtain⟨h1,h2⟩:=Az.1 hl
   have a:=Sq (st:=st) (g:=g) (x:=x) h1
   have b:=Yg (st:=st) (g:=g) (ps:=r) h2
   simp only [St.parts,Pd]
   exact⟨⟨a.1,b.1⟩,by rw [a.2,b.2]⟩
def nJ (P:Program) (st:St) (s:Stp) (d:Nat) (t:TypeId) (len:Nat) (ps:List (Nat×Operand)):Option (List Prop×St):=
 match Pa P t with
 | some (E,n,_)=>match VH P E with
   | some z=>match PH (fun i=>some (i*n,n)) (Fa z len) ((Pd st true ps).2.map aK)with
     | some cs=>match z.length==n&&Nat.blt 0 n&&Nat.ble (len*n) (2 ^ 24)&&Bw cs with
       | true=>ji s len cs fun len' cs' l3=>some ((Pd st true ps).1++l3,(st.new ⟨d::st.pre,some (E,n,len'),cs',true⟩).put (some d) (.c (.osl (d::st.pre))))
       | false=>none
     | none=>none
   | none=>none
 | none=>none
theorem eW {P:Program} {st st':St} {s:Stp} {d:Nat} {t:TypeId} {len:Nat} {ps:List (Nat×Operand)} {l':List Prop} (h:nJ P st s d t len ps=some (l',st')) (hl:BE l'):
 (GE P st d t len ps).1∧(GE P st d t len ps).2=st':=by
 unfold nJ at h
 unfold GE
 split at h
 ·rename_i h1
  split at h
  ·rename_i h2
   split at h
   ·rename_i h3
    split at h
    ·rename_i hb
     obtain⟨len',cs',l3,hk,ht⟩:=RL h
     simp only [Option.some.injEq,Prod.mk.injEq]at hk
     obtain⟨rfl,rfl⟩:=hk
     obtain⟨q1,q2⟩:=Az.1 hl
     obtain⟨rfl,rfl⟩:=ht q2
     obtain⟨k1,k2⟩:=Yg q1
     simp only [Bool.and_eq_true,beq_iff_eq,Nat.blt_eq,Nat.ble_eq]at hb
     simp only [h1,h2,k2,h3,hb.2]
     exact⟨⟨k1,hb.1.1.1,hb.1.1.2,hb.1.2⟩,trivial⟩
    ·cases h
   ·cases h
  ·cases h
 ·cases h
def nk (P:Program) (st:St) (s:Stp) (o:Oper):Option (List Prop×St):=
 match o.op with
 | .store T x y=>eU P st s o.dst T ((CQ st true x).1++(CQ st true y).1) (CQ st true x).2 (kH y (CQ st true y).2)
 | op=>match o.dst with
   | none=>none
   | some d=>match op with
     | .alloc T=>match X1 P T with
       | some cs=>some ([],(st.new ⟨d::st.pre,none,cs,false⟩).put (some d) (.c (.ptr (d::st.pre) 0)))
       | none=>none
     | .box _ x=>match (CQ st true x).2.cells with
       | some cs=>some ((CQ st true x).1,(st.new ⟨d::st.pre,none,cs,false⟩).put (some d) (.c (.ptr (d::st.pre) 0)))
       | none=>none
     | .assign (.const (.slice none 0 0))=>match Mi P o.type with
       | some (E,n)=>some ([],(st.new ⟨d::st.pre,some (E,n,0),[],true⟩).put (some d) (.c (.osl (d::st.pre))))
       | none=>none
     | .buildSlice t len ps=>nJ P st s d t len ps.toList
     | .makeSlice t l c=>kU P st s d t ((CQ st true l).1++(CQ st true c).1) (CQ st true l).2 (CQ st true c).2
     | .call c=>match c.callee,c.args.toList,c.argTypes.toList with
       | .builtin .append,[u,x],[t,t']=>match t==t' with
         | true=>Zd P st s d t ((CQ st true u).1++(CQ st true x).1) (CQ st true u).2 (CQ st true x).2
         | false=>none
       | .builtin .copy,[u,x],[t,_]=>kT P st s d t ((CQ st true u).1++(CQ st true x).1) (CQ st true u).2 (CQ st true x).2
       | _,_,_=>none
     | _=>none
theorem Ts {P:Program} {st st':St} {s:Stp} {o:Oper} {l:List Prop} (h:nk P st s o=some (l,st')) (hl:BE l):(PL.ef P st o).1∧(PL.ef P st o).2=st':=by
 have A: ∀ x,BE (CQ st true x).1→(st.arg true x).1∧(st.arg true x).2=(CQ st true x).2:=fun x hx=>Sq hx
 obtain⟨dst,op,ty,pos,aft,gd⟩:=o
 cases op<;>cases dst<;>simp only [nk]at h<;>simp only [PL.ef]<;>try (cases h;done)
 case store.none T x y=>
  have:=Sr h hl
  obtain⟨q1,q2⟩:=Az.1 this.1
  obtain⟨k1,k2⟩:=A x q1
  obtain⟨k3,k4⟩:=A y q2
  rw [k2,k4]
  exact⟨⟨k1,k3,this.2.1⟩,this.2.2⟩
 case store.some T x y d=>
  have:=Sr h hl
  obtain⟨q1,q2⟩:=Az.1 this.1
  obtain⟨k1,k2⟩:=A x q1
  obtain⟨k3,k4⟩:=A y q2
  rw [k2,k4]
  exact⟨⟨k1,k3,this.2.1⟩,this.2.2⟩
 case alloc.some T d=>
  split at h
  ·rename_i cs hz
   simp only [Option.some.injEq,Prod.mk.injEq]at h
   obtain⟨rfl,rfl⟩:=h
   simp only [hz];exact⟨trivial,trivial⟩
  ·cases h
 case box.some T x d=>
  split at h
  ·rename_i cs hz
   simp only [Option.some.injEq,Prod.mk.injEq]at h
   obtain⟨rfl,rfl⟩:=h
   obtain⟨k1,k2⟩:=A x hl
   simp only [k2,hz];exact⟨⟨k1,trivial⟩,trivial⟩
  ·cases h
 case assign.some x d=>
  split at h
  all_goals first
   | (split at h
      ·rename_i E n hE
       simp only [Option.some.injEq,Prod.mk.injEq]at h
       obtain⟨rfl,rfl⟩:=h
       simp_all
      ·cases h)
   | (rename_i q;simp_all;done)
   | (cases h;done)
   | simp_all
 case buildSlice.some t len ps d=>exact eW h hl
 case makeSlice.some t a b d=>
  have:=bb h hl
  obtain⟨q1,q2⟩:=Az.1 this.1
  obtain⟨k1,k2⟩:=A a q1
  obtain⟨k3,k4⟩:=A b q2
  rw [k2,k4]
  exact⟨⟨k1,k3,this.2.1⟩,this.2.2⟩
 case call.some c d=>
  split at h
  ·rename_i u x t t' h1 h2 h3
   split at h
   ·rename_i hb
    obtain rfl:t=t':=by simpa using hb
    have:=Xs h hl
    obtain⟨q1,q2⟩:=Az.1 this.1
    obtain⟨k1,k2⟩:=A u q1
    obtain⟨k3,k4⟩:=A x q2
    simp only [h1,h2,h3]
    rw [k2,k4]
    exact⟨⟨k1,k3,trivial,this.2.1⟩,this.2.2⟩
   ·cases h
  ·rename_i u x t t' h1 h2 h3
   have:=ba h hl
   obtain⟨q1,q2⟩:=Az.1 this.1
   obtain⟨k1,k2⟩:=A u q1
   obtain⟨k3,k4⟩:=A x q2
   simp only [h1,h2,h3]
   rw [k2,k4]
   exact⟨⟨k1,k3,trivial,this.2.1⟩,this.2.2⟩
  ·cases h
def Stp.u:Stp→Option V
 | .v x=>some x
 | _=>none
def M3 (P:Program) (I:World→Prop) (dr:Bool) (ops:Array Oper) (o:Oper) (s:Stp) (st:St):Option (List Prop×St):=
 match o.guard with
 | none=>match DH o.op with
   | .rd =>match pq P st true s.u o.op with
     | some (l,v)=>some (l,st.put o.dst v)
     | none=>none
   | .cut x=>match dr with
     | true=>match pq P st true s.u o.op with
       | some (l,v)=>some (l,st.put o.dst v)
       | none=>none
     | false=>match pq P (st.cutAt true x) true s.u o.op with
       | some (l,v)=>some (l,(st.cutAt true x).put o.dst v)
       | none=>none
   | .ef =>match dr with
     | true=>none
     | false=>nk P st s o
   | .call f xs=>match s with
     | .c r=>match FM ((GF st true xs).2.map (Dr st))&&(r.flat||(!dr&&Nat.ble (FY (GF st true xs).2).length 1&&(FY (GF st true xs).2).all st.okFrz))with
       | true=>some ((GF st true xs).1++[Af P I f ((GF st true xs).2.map (Dr st)) (· =r)],match dr with
         | true=>st.put o.dst r
         | false=>st.after (FY (GF st true xs).2) o.dst r)
       | false=>none
     | _=>none
   | .no =>none
 | some (j,want)=>match Mn st ops j want with
   | some g=>match DH o.op with
     | .rd =>match pq P st g s.u o.op with
       | some ([],v)=>some ([],st.put o.dst (.g g v))
       | some (l,v)=>some ([g=true→BE l],st.put o.dst (.g g v))
       | none=>none
     | .cut _=>match dr with
       | true=>match pq P st g s.u o.op with
         | some ([],v)=>some ([],st.put o.dst (.g g v))
         | some (l,v)=>some ([g=true→BE l],st.put o.dst (.g g v))
         | none=>none
       | false=>none
     | .call f xs=>match s with
       | .c r=>match FM ((GF st g xs).2.map (Dr st))&&(r.flat||(!dr&&(FY (GF st g xs).2).isEmpty))with
         | true=>some ([g=true→BE (GF st g xs).1∧Af P I f ((GF st g xs).2.map (Dr st)) (· =r)],st.put o.dst (.g g r))
         | false=>none
       | _=>none
     | .ef =>match dr with
       | true=>none
       | false=>match nk P st s o with
         | some (l,st')=>some (l++[g=true],st')
         | none=>none
     | _=>none
   | none=>none
def HO (P:Program) (I:World→Prop) (dr:Bool) (ops:Array Oper):List Oper→List Stp→St→Option (List Prop×St)
 | [],[],st=>some ([],st)
 | o::rest,s::ss,st=>match M3 P I dr ops o s st with
   | some (l,st')=>match HO P I dr ops rest ss st' with
     | some (l',st'')=>some (l++l',st'')
     | none=>none
   | none=>none
 | _,_,_=>none
theorem kV {st:St} {g:Bool} {x:Operand}:(st.arg g x).2=(CQ st g x).2:=by
 unfold CQ St.arg
 generalize st.ev x=e
 cases e<;>rfl
theorem Yh {st:St} {g:Bool}: ∀ {xs:List Operand},(st.args g xs).2=(GF st g xs).2
 | []=>rfl
 | x::xs=>by simp only [St.args,GF,kV,Yh (xs:=xs)]
theorem Ss {P:Program} {I:World→Prop} {ops:Array Oper} {o:Oper} {s:Stp} {st st':St} {l:List Prop} {K:St→Prop} (h:M3 P I false ops o s st=some (l,st')) (hl:BE l) (hK:K st'):kr P I ops o st K:=by
 unfold M3 at h
 unfold kr
 split at h
 ·rename_i hg
  rw [hg]
  simp only
  unfold kq
  right
  split at h
  ·rename_i hk
   simp only [hk]
   split at h
   ·rename_i l v ho
    simp only [Option.some.injEq,Prod.mk.injEq]at h
    obtain⟨rfl,rfl⟩:=h
    obtain⟨h1,h2⟩:=Ho ho hl
    exact⟨h1,by rw [h2];exact hK⟩
   ·cases h
  ·rename_i x hk
   simp only [hk]
   dsimp only at h
   split at h
   ·rename_i l v ho
    simp only [Option.some.injEq,Prod.mk.injEq]at h
    obtain⟨rfl,rfl⟩:=h
    obtain⟨h1,h2⟩:=Ho ho hl
    exact⟨h1,by rw [h2];exact hK⟩
   ·cases h
  ·rename_i hk
   simp only [hk]
   obtain⟨h1,h2⟩:=Ts h hl
   exact⟨h1,by rw [h2];exact hK⟩
  ·rename_i f xs hk
   simp only [hk]
   split at h
   ·rename_i r
    split at h
    ·rename_i hb
     simp only [Option.some.injEq,Prod.mk.injEq]at h
     obtain⟨rfl,rfl⟩:=h
     obtain⟨q1,q2,_⟩:=Az.1 hl
     obtain⟨k1,k2⟩:=LF q1
     simp only [Bool.and_eq_true,Bool.or_eq_true,Bool.not_false,true_and,Nat.ble_eq,List.all_eq_true]at hb
     rw [k2]
     refine⟨k1,hb.1,_,q2,fun r' hr'=>?_⟩
     subst hr'
     exact⟨hb.2,hK⟩
    ·cases h
   ·cases h
  ·cases h
 ·rename_i j want hg
  rw [hg]
  simp only
  split at h
  ·rename_i g hq
   rw [hq]
   simp only
   unfold tW
   by_cases hef:DH o.op= .ef
   ·left
    rw [hef]at h
    dsimp only at h
    split at h
    ·rename_i l1 st1 h1
     simp only [Option.some.injEq,Prod.mk.injEq]at h
     obtain⟨rfl,rfl⟩:=h
     obtain⟨q1,q2,_⟩:=Az.1 hl
     refine⟨fun _=>?_,fun hf=>by rw [q2]at hf;cases hf⟩
     unfold kq
     right
     simp only [hef]
     obtain⟨k1,k2⟩:=Ts h1 q1
     exact⟨k1,by rw [k2];exact hK⟩
    ·cases h
   right
   split at h
   ·rename_i hk
    simp only [hk]
    split at h
    ·rename_i v ho
     simp only [Option.some.injEq,Prod.mk.injEq]at h
     obtain⟨rfl,rfl⟩:=h
     exact⟨v,fun _=>Ho ho trivial,hK⟩
    ·rename_i l v hne ho
     simp only [Option.some.injEq,Prod.mk.injEq]at h
     obtain⟨rfl,rfl⟩:=h
     exact⟨v,fun hgt=>Ho ho (hl.1 hgt),hK⟩
    ·cases h
   ·cases h
   ·rename_i f xs hk
    simp only [hk]
    split at h
    ·rename_i r
     split at h
     ·rename_i hb
      simp only [Option.some.injEq,Prod.mk.injEq]at h
      obtain⟨rfl,rfl⟩:=h
      simp only [Bool.and_eq_true,Bool.or_eq_true,Bool.not_false,true_and,List.isEmpty_iff]at hb
      refine⟨fun hgt=>?_,r,hb.2.imp id (fun q=>by rw [Yh];exact q),fun hgt=>?_,hK⟩
      ·obtain⟨k1,k2⟩:=LF (hl.1 hgt).1
       rw [k2]
       exact⟨k1,hb.1⟩
      ·obtain⟨k1,k2⟩:=LF (hl.1 hgt).1
       rw [k2]
       exact(hl.1 hgt).2
     ·cases h
    ·cases h
   ·rename_i hk;exact absurd hk hef
   ·cases h
  ·cases h
theorem kW {P:Program} {I:World→Prop} {ops:Array Oper} {o:Oper} {s:Stp} {st st':St} {l:List Prop} {K:St→Prop} (h:M3 P I true ops o s st=some (l,st')) (hl:BE l) (hK:K st'):qt P I ops o st K:=by
 unfold M3 at h
 unfold qt
 split at h
 ·rename_i hg
  rw [hg]
  simp only
  unfold qr
  split at h
  ·rename_i hk
   simp only [hk]
   split at h
   ·rename_i l v ho
    simp only [Option.some.injEq,Prod.mk.injEq]at h
    obtain⟨rfl,rfl⟩:=h
    obtain⟨h1,h2⟩:=Ho ho hl
    exact⟨h1,by rw [h2];exact hK⟩
   ·cases h
  ·rename_i x hk
   simp only [hk]
   dsimp only at h
   split at h
   ·rename_i l v ho
    simp only [Option.some.injEq,Prod.mk.injEq]at h
    obtain⟨rfl,rfl⟩:=h
    obtain⟨h1,h2⟩:=Ho ho hl
    exact⟨h1,by rw [h2];exact hK⟩
   ·cases h
  ·dsimp only at h;cases h
  ·rename_i f xs hk
   simp only [hk]
   split at h
   ·rename_i r
    split at h
    ·rename_i hb
     simp only [Option.some.injEq,Prod.mk.injEq]at h
     obtain⟨rfl,rfl⟩:=h
     obtain⟨q1,q2,_⟩:=Az.1 hl
     obtain⟨k1,k2⟩:=LF q1
     simp only [Bool.and_eq_true,Bool.or_eq_true,Bool.not_true,Bool.false_eq_true,false_and,or_false]at hb
     rw [k2]
     exact⟨k1,hb.1,_,hb.2,q2,hK⟩
    ·cases h
   ·cases h
  ·cases h
 ·rename_i j want hg
  rw [hg]
  simp only
  split at h
  ·rename_i g hq
   rw [hq]
   simp only
   unfold tX
   split at h
   ·rename_i hk
    simp only [hk]
    split at h
    ·rename_i v ho
     simp only [Option.some.injEq,Prod.mk.injEq]at h
     obtain⟨rfl,rfl⟩:=h
     exact⟨v,fun _=>Ho ho trivial,hK⟩
    ·rename_i l v hne ho
     simp only [Option.some.injEq,Prod.mk.injEq]at h
     obtain⟨rfl,rfl⟩:=h
     exact⟨v,fun hgt=>Ho ho (hl.1 hgt),hK⟩
    ·cases h
   ·rename_i x hk
    simp only [hk]
    dsimp only at h
    split at h
    ·rename_i v ho
     simp only [Option.some.injEq,Prod.mk.injEq]at h
     obtain⟨rfl,rfl⟩:=h
     exact⟨v,fun _=>Ho ho trivial,hK⟩
    ·rename_i l v hne ho
     simp only [Option.some.injEq,Prod.mk.injEq]at h
     obtain⟨rfl,rfl⟩:=h
     exact⟨v,fun hgt=>Ho ho (hl.1 hgt),hK⟩
    ·cases h
   ·rename_i f xs hk
    simp only [hk]
    split at h
    ·rename_i r
     split at h
     ·rename_i hb
      simp only [Option.some.injEq,Prod.mk.injEq]at h
      obtain⟨rfl,rfl⟩:=h
      simp only [Bool.and_eq_true,Bool.or_eq_true,Bool.not_true,Bool.false_eq_true,false_and,or_false]at hb
      refine⟨fun hgt=>?_,r,hb.2,fun hgt=>?_,hK⟩
      ·obtain⟨k1,k2⟩:=LF (hl.1 hgt).1
       rw [k2]
       exact⟨k1,hb.1⟩
      ·obtain⟨k1,k2⟩:=LF (hl.1 hgt).1
       rw [k2]
       exact(hl.1 hgt).2
     ·cases h
    ·cases h
   ·dsimp only at h;cases h
   ·cases h
  ·cases h
theorem Ze {P:Program} {I:World→Prop} {ops:Array Oper}: ∀ {l:List Oper} {ss:List Stp} {st st':St} {cs:List Prop} {K:St→Prop},HO P I false ops l ss st=some (cs,st')→BE cs→K st'→Ct P I ops l st K
 | [],[],st,st',cs,K,h,_,hK=>by
   simp only [HO,Option.some.injEq,Prod.mk.injEq]at h
   obtain⟨rfl,rfl⟩:=h
   exact hK
 | o::rest,s::ss,st,st',cs,K,h,hl,hK=>by
   simp only [HO]at h
   split at h
   ·rename_i l1 st1 h1
    split at h
    ·rename_i l2 st2 h2
     simp only [Option.some.injEq,Prod.mk.injEq]at h
     obtain⟨rfl,rfl⟩:=h
     obtain⟨q1,q2⟩:=Az.1 hl
     exact Ss (K:=fun s=>Ct P I ops rest s K) h1 q1 (Ze h2 q2 hK)
    ·cases h
   ·cases h
 | [],_::_,_,_,_,_,h,_,_=>by simp [HO]at h
 | _::_,[],_,_,_,_,h,_,_=>by simp [HO]at h
theorem gN {P:Program} {I:World→Prop} {ops:Array Oper}: ∀ {l:List Oper} {ss:List Stp} {st st':St} {cs:List Prop} {K:St→Prop},HO P I true ops l ss st=some (cs,st')→BE cs→K st'→LD P I ops l st K
 | [],[],st,st',cs,K,h,_,hK=>by
   simp only [HO,Option.some.injEq,Prod.mk.injEq]at h
   obtain⟨rfl,rfl⟩:=h
   exact hK
 | o::rest,s::ss,st,st',cs,K,h,hl,hK=>by
   simp only [HO]at h
   split at h
   ·rename_i l1 st1 h1
    split at h
    ·rename_i l2 st2 h2
     simp only [Option.some.injEq,Prod.mk.injEq]at h
     obtain⟨rfl,rfl⟩:=h
     obtain⟨q1,q2⟩:=Az.1 hl
     exact kW (K:=fun s=>LD P I ops rest s K) h1 q1 (gN h2 q2 hK)
    ·cases h
   ·cases h
 | [],_::_,_,_,_,_,h,_,_=>by simp [HO]at h
 | _::_,[],_,_,_,_,h,_,_=>by simp [HO]at h
section
variable {P:Program} {F:Fr} {st:St}
theorem Ak.reg {id:Nat} {l:List Oper} {Q:Exit→St→Prop} {ss:List Stp} {cs:List Prop} {st':St} (hr:HO P F.I false l.toArray l ss st=some (cs,st')) (hl:BE cs) (h:Q .normal st'):Ak P F (.region id l.toArray false) st Q:=
 Ak.region (Ze hr hl h)
theorem Ak.regQ {id:Nat} {l:List Oper} {Q:Exit→St→Prop} {ss:List Stp} {cs:List Prop} {st':St} (h1:P.follows .mixedOrders =true) (h2:Region.lexB .any l.toArray=true) (hr:HO P F.I true l.toArray l ss st=some (cs,st')) (hl:BE cs) (h:Q .normal st'):Ak P F (.region id l.toArray true) st Q:=
 Ak.regionQ h1 h2 (gN hr hl h)
theorem Ak.ifB {c:Operand} {x y:Code} {Q:Exit→St→Prop} (b:Bool) (hc:st.ev c= .c (.bool b)) (h1:b=true→Ak P F x st Q) (h2:b=false→Ak P F y st Q):Ak P F (.cond c x y) st Q:=Ak.cond hc h1 h2
theorem Ak.at {c:Code} {Q:Exit→St→Prop} (st':St) (h:st=st') (hh:Ak P F c st' Q):Ak P F c st Q:=h▸hh
def iter {σ ρ:Type} (B:σ→Option (σ⊕ρ)):Nat→σ→Option ρ
 | 0,_=>none
 | n+1,s=>match B s with
   | some (.inl s')=>iter B n s'
   | some (.inr r)=>some r
   | none=>none
theorem Ak.iter {σ ρ:Type} {B:σ→Option (σ⊕ρ)} (S:σ→St) {N:Nat} {s0:σ} {o:ρ} {c:Code} {Q:Exit→St→Prop} (hi:PL.iter B N s0=some o) (hl:D4 st (S s0))
 (hb: ∀ s z,B s=some z→(∀ o',z= .inr o'→o'=o)→Ak P F c (S s) (Ca (fun st'=> ∃ s',z= .inl s'∧D4 st' (S s')) Q)):Ak P F (.loop c) st Q:=by
 refine Ak.loop (X:=Nat×σ) (fun x=>S x.2) (fun x=>PL.iter B x.1 x.2=some o) (fun x=>x.1) (N,s0) hi hl ?_
 intro ⟨n,s⟩ hx
 cases n with
 | zero=>simp [PL.iter]at hx
 | succ n=>
   simp only [PL.iter]at hx
   cases hB:B s with
   | none=>rw [hB]at hx;simp at hx
   | some z=>
     rw [hB]at hx
     cases z with
     | inl s'=>
       refine(hb s _ hB (fun o' e=>by cases e)).mono fun e st' q=>?_
       cases e<;>simp only [Ca]at q ⊢ <;>try exact q
       obtain⟨s'',e,hl'⟩:=q
       injection e with e;subst e
       exact⟨(n,s'),hx,Nat.lt_succ_self _,hl'⟩
     | inr r=>
       simp only [Option.some.injEq]at hx
       refine(hb s _ hB (fun o' e=>by injection e with e;rw [←e];exact hx)).mono fun e st' q=>?_
       cases e<;>simp only [Ca]at q ⊢ <;>try exact q
       obtain⟨s'',e,_⟩:=q
       cases e
end
def Ab (x:Int):Int:=IntKind.i64.wrap x
def gd {α:Type} [Inhabited α] (g:Bool) (o:Option α):Option α:=if g=true then o else some default
def idx {α:Type} [Inhabited α] (l:List α) (i:Int):Option α:=if 0≤i∧i<l.length then some (l.getD i.toNat default)else none
def sidx (s:List UInt8) (i:Int):Option Int:=if 0≤i∧i<s.length then some (s.getD i.toNat 0).toNat else none
def cat (a b:List UInt8):Option (List UInt8):=if a.length+b.length≤maxLen then some (a++b)else none
def ssub (s:List UInt8) (a b:Int):Option (List UInt8):=if 0≤a∧a≤b∧b≤s.length then some ((s.drop a.toNat).take (b.toNat - a.toNat))else none
def app {α:Type} (by':Nat) (l m:List α):Option (List α):=if(l.length+m.length)*by'≤140737488355328∧l.length+m.length≤maxLen then some (l++m)else none
def need (p:Prop) [Decidable p]:Option Unit:=if p then some ()else none
theorem bS {α β:Type} {o:Option α} {k:α→Option β} {r:β} (h:o.bind k=some r): ∃ x,o=some x∧k x=some r:=by
 cases o with
 | none=>cases h
 | some x=>exact⟨x,rfl,h⟩
theorem iT {β:Type} {b:Bool} {x y:Option β} {r:β} (h:(if b=true then x else y)=some r) (hb:b=true):x=some r:=by rw [if_pos hb]at h;exact h
theorem iF {β:Type} {b:Bool} {x y:Option β} {r:β} (h:(if b=true then x else y)=some r) (hb:b=false):y=some r:=by rw [if_neg (by simp [hb])]at h;exact h
theorem sI {α:Type} {x y:α} (h:some x=some y):x=y:=Option.some.inj h
section
variable {α:Type} [Inhabited α] {l m r:List α} {i:Int} {x:α} {g:Bool}
theorem AI (h:idx l i=some x):0≤i∧i<l.length:=by unfold idx at h;split at h; · assumption
                                                 ·cases h
theorem pt (h:idx l i=some x):x=l.getD i.toNat default:=by unfold idx at h;split at h; · injection h with h;exact h.symm
                                                           ·cases h
theorem G8 {o:Option α} (h:gd g o=some x):g=true→o=some x:=fun hg=>by unfold gd at h;rw [if_pos hg]at h;exact h
theorem KW (h:gd g (idx l i)=some x):g=true→(0≤i∧i<l.length)∧True:=fun hg=>⟨AI (G8 h hg),trivial⟩
theorem L2 {s:List UInt8} {n:Int} (h:sidx s i=some n):0≤i∧i<s.length:=by unfold sidx at h;split at h; · assumption
                                                                         ·cases h
theorem L3 {s:List UInt8} {n:Int} (h:sidx s i=some n):n=(s.getD i.toNat 0).toNat :=by unfold sidx at h;split at h; · injection h with h;exact h.symm
                                                                                      ·cases h
theorem By {a b c:List UInt8} (h:cat a b=some c):a.length+b.length≤maxLen:=by unfold cat at h;split at h; · assumption
                                                                              ·cases h
theorem Bz {a b c:List UInt8} (h:cat a b=some c):c=a++b:=by unfold cat at h;split at h; · injection h with h;exact h.symm
                                                            ·cases h
theorem kX {s c:List UInt8} {a b:Int} (h:ssub s a b=some c):0≤a∧a≤b∧b≤s.length:=by unfold ssub at h;split at h; · assumption
                                                                                   ·cases h
theorem kY {s c:List UInt8} {a b:Int} (h:ssub s a b=some c):c=(s.drop a.toNat).take (b.toNat - a.toNat):=by unfold ssub at h;split at h; · injection h with h;exact h.symm
                                                                                                            ·cases h
omit [Inhabited α] in
theorem CJ {b:Nat} (h:app b l m=some r):(l.length+m.length)*b≤140737488355328∧l.length+m.length≤maxLen:=by unfold app at h;split at h; · assumption
                                                                                                           ·cases h
omit [Inhabited α] in
theorem pv {b:Nat} (h:app b l m=some r):r=l++m:=by unfold app at h;split at h; · injection h with h;exact h.symm
                                                   ·cases h
end
theorem FZ {p:Prop} [Decidable p] {u:Unit} (h:need p=some u):p:=by unfold need at h;split at h; · assumption
                                                                   ·cases h
def eI (k:IntKind) (v:Int):List C:=[.int k v]
def eB (v:Bool):List C:=[.bool v]
def eS (v:List UInt8):List C:=[.str v]
def eL {α:Type} (e:α→List C) (l:List α):List C:=[.sl l.length (l.flatMap e)]
theorem gO {α:Type} [Inhabited α] {l:List α} {i:Int} {x:α} {e:α→List C} {N:Nat} {o n:Nat} {ag:Bool} {v:V} {off:Nat} (hx:idx l i=some x) (hN: ∀ y,(e y).length =N) (hoff:off=i.toNat*N+o) (ho:o+n≤N) (h0:ag=true∨0<n)
 (hv:O6 ag o n (e x)=v):off+n≤(l.flatMap e).length ∧O6 ag off n (l.flatMap e)=v:=by
 have hb:=AI hx
 have hxx:=pt hx
 have hlt:i.toNat<l.length:=by omega
 subst hoff
 rw [Kf hN]
 constructor
 ·have:(i.toNat+1)*N≤l.length*N:=Nat.mul_le_mul_right _ hlt
  rw [Nat.add_mul]at this
  omega
 ·rw [←hv]
  unfold O6
  cases ag with
  | true=>simp only [if_true];rw [Ye hN l default hlt o n ho, ←hxx]
  | false=>simp only [Bool.false_eq_true,if_false];rw [kM hN l default hlt o (by rcases h0 with h | h<;>first | (cases h;done) | omega), ←hxx]
def kZ (P:Program) (st:St):ResultVar→Option V
 | .tmp t=>some (st.get t)
 | .cell t T=>match gL P T st [] (st.get t)with
   | some (_,v)=>some v
   | none=>none
def V7 (P:Program) (st:St):List ResultVar→Option (List V)
 | []=>some []
 | x::xs=>match kZ P st x,V7 P st xs with
   | some v,some vs=>some (v::vs)
   | _,_=>none
def UJ (P:Program) (st:St):List ResultVar→Option V
 | [x]=>kZ P st x
 | xs=>match V7 P st xs with
   | some vs=>some (.tup vs)
   | none=>none
theorem RN {P:Program} {st:St} {x:ResultVar} {v:V} (h:kZ P st x=some v):(Xr P st x).1∧(Xr P st x).2=v:=by
 cases x with
 | tmp t=>simp only [kZ,Option.some.injEq]at h;exact⟨trivial,h⟩
 | cell t T=>
   simp only [kZ]at h
   split at h
   ·rename_i l u hl
    injection h with h;subst h
    have:=Ut hl
    exact⟨this.2.1,this.2.2⟩
   ·cases h
theorem P7 {P:Program} {st:St}: ∀ {xs:List ResultVar} {vs:List V},V7 P st xs=some vs→(LE P st xs).1∧(LE P st xs).2=vs
 | [],vs,h=>by simp only [V7,Option.some.injEq]at h;subst h;exact⟨trivial,rfl⟩
 | x::xs,vs,h=>by
   simp only [V7]at h
   split at h
   ·rename_i v us h1 h2
    injection h with h;subst h
    have a:=RN h1
    have b:=P7 h2
    exact⟨⟨a.1,b.1⟩,by simp only [LE,a.2,b.2]⟩
   ·cases h
theorem bc {P:Program} {st:St} {xs:List ResultVar} {v:V} (h:UJ P st xs=some v):(I7 P st xs).1∧(I7 P st xs).2=v:=by
 match xs with
 | [x]=>exact RN h
 | []=>simp only [UJ,V7,Option.some.injEq]at h;subst h;exact⟨trivial,rfl⟩
 | x::y::xs=>
   simp only [UJ]at h
   split at h
   ·rename_i vs hv
    injection h with h;subst h
    have:=P7 hv
    exact⟨this.1,by simp only [I7,this.2]⟩
   ·cases h
theorem be {P:Program} {st:St} {x:ResultVar}:(Xp P st x).1=(Xr P st x).1∧(Xp P st x).2=Dr st (Xr P st x).2:=by cases x<;>exact⟨rfl,rfl⟩
theorem Yi {P:Program} {st:St}: ∀ {xs:List ResultVar},(M1 P st xs).1=(LE P st xs).1∧(M1 P st xs).2=(LE P st xs).2.map (Dr st)
 | []=>⟨rfl,rfl⟩
 | x::xs=>by
   have a:=be (P:=P) (st:=st) (x:=x)
   have b:=Yi (P:=P) (st:=st) (xs:=xs)
   simp only [M1,LE,a.1,a.2,b.1,b.2,List.map_cons,and_self]
def la (st:St) (rs:List ResultVar):V→V
 | .tup vs=>match rs with
   | [_]=> .tup vs
   | _=> .tup (vs.map (Dr st))
 | v=>Dr st v
theorem gP {P:Program} {st:St} {rs:List ResultVar} {v r:V} {e:Exit} (he:e= .normal ∨e= .ret) (h:UJ P st rs=some v) (hs:la st rs v=r) (hp:r.pure=true) {r':V} (hr:r=r'):
 (e= .normal ∨e= .ret)∧(I6 P st rs).1∧(I6 P st rs).2.pure =true∧(I6 P st rs).2=r':=by
 subst hr
 have key:(I6 P st rs).1∧(I6 P st rs).2=r:=by
  match rs with
  | [x]=>
    have a:=RN h
    have b:=be (P:=P) (st:=st) (x:=x)
    simp only [I6]
    rw [b.1,b.2,a.2, ←hs]
    exact⟨a.1,by cases v<;>rfl⟩
  | []=>
    simp only [UJ,V7,Option.some.injEq]at h
    subst h;subst hs
    exact⟨trivial,rfl⟩
  | x::y::xs=>
    simp only [UJ]at h
    split at h
    ·rename_i vs hv
     injection h with h;subst h
     have a:=P7 hv
     have b:=Yi (P:=P) (st:=st) (xs:=x::y::xs)
     simp only [I6]
     rw [b.1,b.2,a.2, ←hs]
     exact⟨a.1,rfl⟩
    ·cases h
 exact⟨he,key.1,by rw [key.2];exact hp,key.2⟩
def Rt:List Bool→List V→List V
 | [],_=>[]
 | true::m,v::vs=>v::Rt m vs
 | false::m,_::vs=> .undef ::Rt m vs
 | _::_,[]=>[]
def Su:List Bool→List C3→List C3
 | true::m,e::es=>e::Su m es
 | false::m,_::es=>Su m es
 | _,_=>[]
theorem Yj: ∀ {m:List Bool} {l l':List V},m.length=l.length→Rt m l=l'→PI l l'
 | [],[],l',_,h=>by simp only [Rt]at h;subst h;trivial
 | true::m,v::vs,l',hl,h=>by simp only [Rt]at h;subst h;exact⟨.inr rfl,Yj (by simpa using hl) rfl⟩
 | false::m,v::vs,l',hl,h=>by simp only [Rt]at h;subst h;exact⟨.inl rfl,Yj (by simpa using hl) rfl⟩
 | [],_::_,_,hl,_=>by simp at hl
 | _::_,[],_,hl,_=>by simp at hl
theorem QX: ∀ (m:List Bool) (l:List C3),(Su m l).Sublist l
 | [],l=>by simp [Su]
 | true::m,[]=>by simp [Su]
 | false::m,[]=>by simp [Su]
 | true::m,e::es=>by simp only [Su];exact(QX m es).cons_cons _
 | false::m,e::es=>by simp only [Su];exact(QX m es).cons _
def sr (m g:List Bool) (e:List Bool) (st:St):St:=⟨Rt m st.tm,Su e st.so,Rt g st.gh,st.pre⟩
theorem D4.mask (m g e:List Bool) {st st':St} (hm:Nat.beq m.length st.tm.length=true) (hg:Nat.beq g.length st.gh.length=true) (h:sr m g e st=st'):D4 st st':=by
 subst h
 have a:=(Yj (m:=m) (l:=st.tm) (by simpa using hm) rfl).get
 have b:=(Yj (m:=g) (l:=st.gh) (by simpa using hg) rfl).get
 exact⟨a.1,a.2,fun _ he=>(QX _ _).subset he,fun hn=>List.Sublist.nodup (List.Sublist.map (fun d:C3=>d.id) (QX _ _)) hn,b,rfl⟩
section
variable {P:Program} {F:Fr} {st:St}
end
theorem CZ {α β γ:Type} {f:α→γ} {g:β→γ} {a:α} {r:γ} (h:Sum.elim f g (.inl a)=r):f a=r:=h
theorem Cy {α β γ:Type} {f:α→γ} {g:β→γ} {a:β} {r:γ} (h:Sum.elim f g (.inr a)=r):g a=r:=h
def FU:Nat:=9223372036854775807
theorem L4 {α:Type} [Inhabited α] {l:List α} {i:Int} {x:α} {e:α→List C} {N:Nat} {o n base:Nat} {ag:Bool} {v:V} {off:Nat} {cs pre post:List C} (hcs:cs=pre++(l.flatMap e++post)) (hb:pre.length=base) (hx:idx l i=some x) (hN: ∀ y,(e y).length =N) (hoff:off=base+(i.toNat*N+o)) (ho:o+n≤N) (h0:ag=true∨0<n)
 (hv:O6 ag o n (e x)=v):off+n≤cs.length∧O6 ag off n cs=v:=by
 obtain⟨h1,h2⟩:=gO hx hN rfl ho h0 hv
 subst hcs hoff hb
 constructor
 ·simp only [List.length_append];omega
 ·rw [←h2]
  unfold O6
  cases ag with
  | true=>
    simp only [if_true]
    rw [←List.drop_drop,List.drop_left,List.drop_append_of_le_length (by omega),List.take_append_of_le_length (by simp only [List.length_drop];omega)]
  | false=>
    simp only [Bool.false_eq_true,if_false]
    have h3:0<n:=by rcases h0 with h | h<;>first | (cases h;done) | exact h
    simp only [List.getD_eq_getElem?_getD]
    rw [List.getElem?_append_right (by omega),Nat.add_sub_cancel_left,List.getElem?_append_left (by omega)]
end Go.PL
namespace Go.PL
open Go Go.RowKit
def GG (n k:Nat):List Bool:=(List.range k).map (Nat.testBit n)
theorem jj (n k:Nat):(GG n k).length =k:=by simp [GG]
theorem Yk (n k i:Nat):(GG n k).toArray.setIfInBounds i true=(GG (n||| 2 ^ i) k).toArray :=by
 apply Array.ext
 ·simp [GG]
 ·intro j h1 h2
  have hj:j<k:=by simpa [GG] using h2
  have e:((GG n k).toArray.setIfInBounds i true).toList =(GG n k).set i true:=by simp
  have e2:((GG n k).toArray.setIfInBounds i true)[j]=((GG n k).set i true)[j]'(by simp [GG,hj]):=by simp [←Array.getElem_toList]
  rw [e2,List.getElem_set]
  simp only [GG,List.getElem_toArray,List.getElem_map,List.getElem_range,Nat.testBit_or,Nat.testBit_two_pow]
  split
  ·rename_i h;simp [h]
  ·rename_i h;simp [h]
def UK (ops:Array Oper) (n:Nat):List Nat:=Region.ready .any ops (GG n ops.size).toArray
def Vm (ops:Array Oper) (nodes:List Nat):Bool:=
 nodes.contains 0&&nodes.all fun n=>(!(UK ops n).isEmpty ||(GG n ops.size).all id)&&(UK ops n).all fun i=>nodes.contains (n||| 2 ^ i)
def bg (ids:List CI) (st:St):St:={st with so:=ids.filterMap fun i=>st.so.find? fun e=>e.id==i}
theorem Tt (ids:List CI) (hn:ids.Nodup) (st:St):D4 st (bg ids st) where
 len:=rfl
 tm:=fun _=> .inr rfl
 so:=fun e he=>by
  simp only [bg,List.mem_filterMap]at he
  obtain⟨i,_,h⟩:=he
  exact List.mem_of_find?_eq_some h
 nd:=fun _=>by
  have: ∀ ids:List CI,((ids.filterMap fun i=>st.so.find? fun e=>e.id==i).map (·.id)).Sublist ids:=by
   intro ids
   induction ids with
   | nil=>simp
   | cons i ids ih=>
     simp only [List.filterMap_cons]
     split
     ·exact ih.cons _
     ·rename_i e he
      have:=List.find?_some he
      simp only [beq_iff_eq]at this
      simp only [List.map_cons,this]
      exact ih.cons_cons _
  exact List.Sublist.nodup (this ids) hn
 gh:=⟨rfl,fun _=> .inr rfl⟩
 pre:=rfl
def bh (P:Program) (I:World→Prop) (ops:Array Oper) (ss:List Stp) (ids:List CI) (st:St) (i:Nat):Option (List Prop×St):=
 match ops[i]?,ss[i]? with
 | some o,some s=>match M3 P I false ops o s st with
   | some (c,st')=>some (c,bg ids st')
   | none=>none
 | _,_=>none
def su (P:Program) (I:World→Prop) (ops:Array Oper) (ss:List Stp) (ids:List CI) (SL:Nat→St) (nodes:List Nat):List (Option (List Prop×St)):=
 nodes.flatMap fun n=>(UK ops n).map fun i=>bh P I ops ss ids (SL n) i
def pw (ops:Array Oper) (cs:List (List Prop)) (SL:Nat→St) (nodes:List Nat):List (Option (List Prop×St)):=
 nodes.flatMap fun n=>(UK ops n).map fun i=>some (cs.getD i [],SL (n||| 2 ^ i))
theorem gQ {α β:Type} {f g:α→Nat→β} {r:α→List Nat}: ∀ {l:List α},(l.flatMap fun n=>(r n).map (f n))=(l.flatMap fun n=>(r n).map (g n))→ ∀ n∈l, ∀ i∈r n,f n i=g n i
 | [],_,n,hn,_,_=>by simp at hn
 | a::l,h,n,hn,i,hi=>by
   simp only [List.flatMap_cons]at h
   have hh:=List.append_inj h (by simp)
   rcases List.mem_cons.1 hn with rfl | hn
   ·have:=hh.1
    have:=List.map_inj_left.1 this
    exact this i hi
   ·exact gQ hh.2 n hn i hi
def Sv:List (List Prop)→Prop
 | []=>True
 | l::ls=>BE l∧Sv ls
theorem Tu: ∀ {cs:List (List Prop)},Sv cs→ ∀ i,BE (cs.getD i [])
 | [],_,i=>by simp [BE]
 | l::ls,h,0=>by simpa using h.1
 | l::ls,h,i+1=>by simpa using Tu h.2 i
section
variable {P:Program} {F:Fr} {st:St} {ops:Array Oper}
theorem Yl {a:Act} {w:World} {G:B4} (h:R F st a w G) {o:Oper} {K:St→Prop} {Q:Exit→Act→World→Prop} (hs:kr P F.I ops o st K):
 if Region.wanted o (yielded ops a.tmps)=true then o.wp P a w (kp F K) Q else kp F K (a.put o.dst Go.undef) w:=by
 unfold kr at hs
 split at hs
 ·rename_i hg
  rw [P4 hg,if_pos rfl]
  exact QW h hs
 ·rename_i j want hg
  split at hs
  ·rename_i g hq
   rw [MZ h hg hq]
   exact Ya h hs
  ·exact hs.elim
def lb (l:List Bool):Nat:=(l.filter (! ·)).length
theorem Zf: ∀ (l:List Bool) (i:Nat),l[i]? =some false→lb (l.set i true)+1=lb l
 | [],i,h=>by simp at h
 | b::l,0,h=>by simp at h;subst h;simp [lb]
 | b::l,i+1,h=>by
   have:=Zf l i (by simpa using h)
   cases b<;>simp_all [lb]<;>omega
theorem bi: ∀ (l:List Bool),lb l=0→l.all id=true
 | [],_=>rfl
 | true::l,h=>by simp [lb]at h ⊢;simpa using h
 | false::l,h=>by simp [lb]at h
theorem uj {nodes:List Nat} {ss:List Stp} {ids:List CI} {cs:List (List Prop)} {SL:Nat→St} {Q:Exit→St→Prop} (hcl:Vm ops nodes=true) (hids:ids.Nodup)
 (hst:su P F.I ops ss ids SL nodes=pw ops cs SL nodes) (hc:Sv cs) (hQ: ∀ n∈nodes,(GG n ops.size).all id=true→Q .normal (SL n)):
 ∀ (fuel n:Nat) (a:Act) (w:World) (G:B4),n∈nodes→lb (GG n ops.size)≤fuel→R F (SL n) a w G→
   wpAny P .any ops (fun e a' w'=> ∃ st' G',Q e st'∧R F st' a' w' G') fuel (GG n ops.size).toArray a w:=by
 simp only [Vm,Bool.and_eq_true,List.all_eq_true,Bool.or_eq_true,Bool.not_eq_true',List.contains_iff_mem]at hcl
 have hall:=gQ (r:=UK ops) hst
 have rdyFalse: ∀ n i,i∈UK ops n→(GG n ops.size)[i]? =some false:=by
  intro n i hi
  unfold UK Region.ready at hi
  simp only [List.mem_filter,List.mem_range,Bool.and_eq_true,Bool.not_eq_true']at hi
  obtain⟨h1,h2,_⟩:=hi
  have hlt:i<(GG n ops.size).length :=by rw [jj];exact h1
  rw [List.getElem?_eq_getElem hlt]
  simp [Array.getD_eq_getD_getElem?,hlt]at h2
  rw [h2]
 intro fuel
 induction fuel with
 | zero=>
   intro n a w G hn hu hR
   have hz:=bi _ (Nat.le_zero.1 hu)
   have hr:UK ops n=[]:=by
    rcases hrr:UK ops n with _ | ⟨i,r⟩
    ·rfl
    ·have:=rdyFalse n i (by rw [hrr];simp)
     rw [List.all_eq_true]at hz
     have:=hz false (List.mem_of_getElem? this)
     simp at this
   exact⟨hr,_,G,hQ n hn hz,hR⟩
 | succ fuel ih=>
   intro n a w G hn hu hR
   refine⟨fun hr=>?_,fun i hi=>?_⟩
   ·have h2:=(hcl.2 n hn).1
    rcases h2 with h2 | h2
    ·have:(UK ops n).isEmpty =true:=by rw [show UK ops n=[] from hr];rfl
     rw [this]at h2;cases h2
    ·exact⟨_,G,hQ n hn (by rw [List.all_eq_true];exact h2),hR⟩
   ·have hi':i∈UK ops n:=hi
    have hstep:=hall n hn i hi'
    unfold bh at hstep
    split at hstep
    ·rename_i o s ho hs
     split at hstep
     ·rename_i c st' hss
      simp only [Option.some.injEq,Prod.mk.injEq]at hstep
      obtain⟨hcc,hst'⟩:=hstep
      have hwp:=Ss (K:=fun s'=>D4 s' (SL (n||| 2 ^ i))) hss (hcc▸Tu hc i) (hst'▸Tt ids hids st')
      have hw:=Yl (Q:=fun e a' w'=> ∃ st' G',Q e st'∧R F st' a' w' G') hR hwp
      have hnext: ∀ a' w',kp F (fun s'=>D4 s' (SL (n||| 2 ^ i))) a' w'→wpAny P .any ops (fun e a' w'=> ∃ st' G',Q e st'∧R F st' a' w' G') fuel ((GG n ops.size).toArray.setIfInBounds i true) a' w':=by
       intro a' w' ⟨s',G',hl,hR'⟩
       rw [Yk]
       refine ih (n||| 2 ^ i) a' w' G' ((hcl.2 n hn).2 i hi') ?_ (hR'.less hl)
       have hb:=rdyFalse n i hi'
       have e:GG (n||| 2 ^ i) ops.size=(GG n ops.size).set i true:=by
        have:=congrArg Array.toList (Yk n ops.size i)
        simpa using this.symm
       have:=Zf _ i hb
       rw [←e]at this
       omega
      unfold wpOp
      rw [ho]
      simp only
      by_cases hwt:Region.wanted o (yielded ops a.tmps)=true
      ·rw [if_pos hwt]at hw ⊢
       exact .inl (Oper.wp_mono hnext hw)
      ·rw [if_neg hwt]at hw ⊢
       exact hnext _ _ hw
     ·cases hstep
    ·cases hstep
theorem Ak.regN {rid:Nat} {l:List Oper} {Q:Exit→St→Prop} (nodes:List Nat) (full:Nat) (ss:List Stp) (ids:List CI) (SL:Nat→St) (cs:List (List Prop)) (h1:P.follows .mixedOrders =true) (hcl:Vm l.toArray nodes=true) (hfull:(nodes.all fun n=> !(GG n l.length).all id||Nat.beq n full)=true) (hids:ids.Nodup)
 (h0:D4 st (SL 0)) (hst:su P F.I l.toArray ss ids SL nodes=pw l.toArray cs SL nodes) (hc:Sv cs) (hQ:Q .normal (SL full)):Ak P F (.region rid l.toArray true) st Q:=by
 intro a w G hR
 refine wp_region_any h1 ?_
 have hR':=(hR.less h0).same (w':={w with drawn:=w.drawn+1}) ⟨rfl,rfl,rfl⟩ ⟨Nat.le_refl _,fun _ _=>rfl⟩
 have h0':GG 0 l.toArray.size=List.replicate l.toArray.size false:=by
  apply List.ext_getElem<;>simp [GG]
 have key:=uj (P:=P) (ops:=l.toArray) (Q:=Q) hcl hids hst hc (fun n hn hall=>by
  have:=List.all_eq_true.1 hfull n hn
  simp only [Bool.or_eq_true,Bool.not_eq_true']at this
  rcases this with this | this
  ·have:(GG n l.length).all id=true:=by simpa using hall
   simp_all
  ·rw [Nat.eq_of_beq_eq_true this];exact hQ) l.toArray.size 0 a _ G (by
   simp only [Vm,Bool.and_eq_true,List.contains_iff_mem]at hcl
   exact hcl.1) (by
   rw [h0'];simp [lb]) hR'
 rw [h0']at key
 simpa using key
end
end Go.PL
namespace Go.PL
open Go Go.RowKit
section
variable {P:Program} {I:World→Prop} {ops:Array Oper} {st st':St} {K:St→Prop}
theorem Ym: ∀ {l:List Oper} {n:Nat} {ss:List Stp} {st st':St} {cs:List Prop},HO P I false ops (l.take n) ss st=some (cs,st')→BE cs→Ct P I ops (l.drop n) st' K→Ct P I ops l st K
 | l,0,ss,st,st',cs,h,hc,hK=>by
   cases ss with
   | nil=>
     simp only [List.take_zero,HO,Option.some.injEq,Prod.mk.injEq]at h
     obtain⟨rfl,rfl⟩:=h
     simpa using hK
   | cons=>simp [HO]at h
 | [],n+1,ss,st,st',cs,h,hc,hK=>by
   cases ss with
   | nil=>
     simp only [List.take_nil,HO,Option.some.injEq,Prod.mk.injEq]at h
     obtain⟨rfl,rfl⟩:=h
     simpa using hK
   | cons=>simp [HO]at h
 | o::l,n+1,[],st,st',cs,h,hc,hK=>by simp [HO]at h
 | o::l,n+1,s::ss,st,st',cs,h,hc,hK=>by
   simp only [List.take_succ_cons,HO]at h
   split at h
   ·rename_i l1 st1 h1
    split at h
    ·rename_i l2 st2 h2
     simp only [Option.some.injEq,Prod.mk.injEq]at h
     obtain⟨rfl,rfl⟩:=h
     obtain⟨q1,q2⟩:=Az.1 hc
     exact Ss (K:=fun s=>Ct P I ops l s K) h1 q1 (Ym h2 q2 (by simpa using hK))
    ·cases h
   ·cases h
theorem Run.part {l:List Oper} (n:Nat) {ss:List Stp} {cs:List Prop} (st':St) (h:HO P I false ops (l.take n) ss st=some (cs,st')) (hc:BE cs) (hK:Ct P I ops (l.drop n) st' K):Ct P I ops l st K:=Ym h hc hK
theorem Run.whole {l:List Oper} {ss:List Stp} {cs:List Prop} (st':St) (h:HO P I false ops l ss st=some (cs,st')) (hc:BE cs) (hK:K st'):Ct P I ops l st K:=Ze h hc hK
theorem Run.inl {l rest:List Oper} {o:Oper} (hl:l=o::rest) (hg:o.guard=none) (h:E0 P I o st (fun st'=>Ct P I ops rest st' K)):Ct P I ops l st K:=by
 subst hl
 simp only [Ct,kr,hg]
 exact .inl h
theorem Run.inlJ {X:Type} (S:X→St) (Φ:X→Prop) {l rest:List Oper} {o:Oper} (hl:l=o::rest) (hg:o.guard=none) (h:E0 P I o st (fun st'=> ∃ v,Φ v∧D4 st' (S v))) (hK: ∀ v,Φ v→Ct P I ops rest (S v) K):Ct P I ops l st K:=
 Run.inl hl hg fun F a w G Q hI hR=>Oper.wp_mono (fun _ _ ⟨_,G',⟨v,hv,hl⟩,hR'⟩=>⟨S v,G',hK v hv,hR'.less hl⟩) (h F a w G Q hI hR)
theorem gI.ret {rs:List ResultVar} {m:Nat} {pre:CI} {d:Option Nat} {v:V} (h:UJ P st rs=some v) (hK:K (st.back m pre d v)):gI P rs m pre d K .ret st:=by
 have:=bc h
 exact⟨this.1,by rw [this.2];exact hK⟩
theorem gI.normal {rs:List ResultVar} {m:Nat} {pre:CI} {d:Option Nat} {v:V} (h:UJ P st rs=some v) (hK:K (st.back m pre d v)):gI P rs m pre d K .normal st:=by
 have:=bc h
 exact⟨this.1,by rw [this.2];exact hK⟩
end
end Go.PL
namespace Go.PL
open Go Go.RowKit
def M4 (l:List Int):List UInt8:=l.map fun n=>UInt8.ofNat n.toNat
theorem Pe: ∀ {l:List Int},(∀ n∈l,0≤n∧n<256)→NJ (l.flatMap (eI .u8))
 | [],_=>trivial
 | n::l,h=>by
   rw [List.flatMap_cons]
   exact⟨h n (by simp),Pe (fun m hm=>h m (by simp [hm]))⟩
theorem P8: ∀ (l:List Int),O7 (l.flatMap (eI .u8))=M4 l
 | []=>rfl
 | n::l=>by
   rw [List.flatMap_cons]
   show UInt8.ofNat n.toNat::O7 (l.flatMap (eI .u8))=_
   rw [P8 l];rfl
end Go.PL
namespace Go.PL
open Go Go.RowKit
theorem V8 {α:Type} (e:α→List C) {N:Nat} (hN: ∀ y,(e y).length =N): ∀ (l:List α) (k:Nat) (x:α),l[k]? =some x→l.flatMap e=(l.take k).flatMap e++(e x++(l.drop (k+1)).flatMap e)∧((l.take k).flatMap e).length =k*N
 | [],k,x,h=>by simp at h
 | a::l,0,x,h=>by simp at h;subst h;simp
 | a::l,k+1,x,h=>by
   obtain⟨h1,h2⟩:=V8 e hN l k x (by simpa using h)
   constructor
   ·rw [List.flatMap_cons,h1];simp [List.append_assoc]
   ·simp [h2,hN,Nat.add_mul];omega
theorem Yn {α:Type} (e:α→List C): ∀ (l:List α) (k:Nat) (x':α),k<l.length→(l.set k x').flatMap e=(l.take k).flatMap e++(e x'++(l.drop (k+1)).flatMap e)
 | [],k,x,h=>by simp at h
 | a::l,0,x,h=>by simp
 | a::l,k+1,x,h=>by
   rw [List.set_cons_succ,List.flatMap_cons,Yn e l k x (by simpa using h)]
   simp [List.append_assoc]
theorem qH {α:Type} [Inhabited α] {l:List α} {i:Int} {x x':α} {e:α→List C} {N o off:Nat} {cs pre post:List C} (hx:idx l i=some x) (hN: ∀ y,(e y).length =N) (hoff:off=pre.length+(i.toNat*N+o)) (ho:o+cs.length≤N)
 (hx':(e x).take o++(cs++(e x).drop (o+cs.length))=e x'):off+cs.length≤(pre++(l.flatMap e++post)).length ∧
  (pre++(l.flatMap e++post)).take off++cs++(pre++(l.flatMap e++post)).drop (off+cs.length)=pre++((l.set i.toNat x').flatMap e++post):=by
 have hb:=AI hx
 have hlt:i.toNat<l.length:=by omega
 have hk:l[i.toNat]? =some x:=by
  rw [pt hx,List.getElem?_eq_getElem hlt,List.getD_eq_getElem?_getD,List.getElem?_eq_getElem hlt];rfl
 obtain⟨h1,h2⟩:=V8 e hN l i.toNat x hk
 have h3:=Yn e l i.toNat x' hlt
 have hex:=hN x
 rw [h1,h3, ←hx']
 subst hoff
 generalize (l.take i.toNat).flatMap e=A at *
 generalize (l.drop (i.toNat+1)).flatMap e=B at *
 generalize e x=X at *
 constructor
 ·simp only [List.length_append];omega
 ·have e1:pre++(A++(X++B)++post)=(pre++(A++X.take o))++((X.drop o).take cs.length++(X.drop (o+cs.length)++(B++post))):=by
   have:X=X.take o++((X.drop o).take cs.length++X.drop (o+cs.length)):=by
    rw [←List.drop_drop,List.take_append_drop,List.take_append_drop]
   conv=>lhs;rw [this]
   simp only [List.append_assoc]
  have l1:(pre++(A++X.take o)).length =pre.length+(i.toNat*N+o):=by simp only [List.length_append,List.length_take];omega
  have l2:((X.drop o).take cs.length).length =cs.length:=by simp only [List.length_take,List.length_drop];omega
  generalize (X.drop o).take cs.length=M at *
  generalize X.drop (o+cs.length)=Z at *
  rw [e1, ←l1,List.take_left, ←List.drop_drop,List.drop_left, ←l2,List.drop_left]
  simp only [List.append_assoc]
theorem Zg {α:Type} [Inhabited α] {l l':List α} {i:Int} {x x':α} {e:α→List C} {N o off base:Nat} {c0 c1 cs pre post:List C} (hc0:c0=pre++(l.flatMap e++post)) (hb:pre.length=base) (hc1:c1=pre++(l'.flatMap e++post)) (hl:l'=l.set i.toNat x') (hx:idx l i=some x) (hN: ∀ y,(e y).length =N)
 (hoff:off=base+(i.toNat*N+o)) (ho:o+cs.length≤N) (hx':(e x).take o++(cs++(e x).drop (o+cs.length))=e x'):off+cs.length≤c0.length∧c0.take off++cs++c0.drop (off+cs.length)=c1:=by
 subst hc0 hc1 hl hb
 exact qH hx hN hoff ho hx'
end Go.PL
namespace Go.PL
open Go Go.RowKit
def slots:Nat→Nat→List (Nat×V)→List V
 | 0,_,_=>[]
 | n+1,i,[]=> .undef ::slots n (i+1) []
 | n+1,i,(j,v)::l=>match Nat.beq i j with
   | true=>v::slots n (i+1) l
   | false=> .undef ::slots n (i+1) ((j,v)::l)
def V.isDef:V→Bool
 | .undef =>false
 | _=>true
def px (st st':St):St:=⟨Rt (st'.tm.map V.isDef) st.tm,st.so.filter (fun e=>st'.so.any fun e'=>e'.id==e.id),Rt (st'.gh.map V.isDef) st.gh,st.pre⟩
def qI (st st':St):Bool:=Nat.beq st'.tm.length st.tm.length&&Nat.beq st'.gh.length st.gh.length
theorem jk {st st':St} (hl:qI st st'=true):D4 st (px st st'):=by
 simp only [qI,Bool.and_eq_true]at hl
 have a:=(Yj (m:=st'.tm.map V.isDef) (l:=st.tm) (by simpa using Nat.eq_of_beq_eq_true hl.1) rfl).get
 have b:=(Yj (m:=st'.gh.map V.isDef) (l:=st.gh) (by simpa using Nat.eq_of_beq_eq_true hl.2) rfl).get
 exact⟨a.1,a.2,fun _ he=>(List.mem_filter.1 he).1,fun hn=>List.Sublist.nodup (List.Sublist.map (fun d:C3=>d.id) List.filter_sublist) hn,b,rfl⟩
def P9 (st st':St):Option St:=match qI st st' with
 | true=>some (px st st')
 | false=>none
theorem D4.t {st st':St} (h:P9 st st'=some st'):D4 st st':=by
 unfold P9 at h
 split at h
 ·rename_i hl
  injection h with h
  have q:=jk hl
  rw [h]at q
  exact q
 ·cases h
def Uu (o:Option (List Prop×St)) (st':St):Option (List Prop×St):=
 match o with
 | some (cs,st)=>match P9 st st' with
   | some s=>some (cs,s)
   | none=>none
 | none=>none
theorem V9 {o:Option (List Prop×St)} {st':St} {cs:List Prop} (h:Uu o st'=some (cs,st')): ∃ st,o=some (cs,st)∧D4 st st':=by
 unfold Uu at h
 split at h
 ·rename_i cs' st
  split at h
  ·rename_i s hs
   simp only [Option.some.injEq,Prod.mk.injEq]at h
   obtain⟨rfl,rfl⟩:=h
   exact⟨st,rfl,D4.t hs⟩
  ·cases h
 ·cases h
section
variable {P:Program} {F:Fr} {st:St}
theorem Ak.rg {id:Nat} {l:List Oper} {c:Code} {Q:Exit→St→Prop} {ss:List Stp} {cs:List Prop} (st':St) (hr:Uu (HO P F.I false l.toArray l ss st) st'=some (cs,st')) (hl:BE cs) (h:Ak P F c st' Q):Ak P F (.seq (.region id l.toArray false) c) st Q:=by
 obtain⟨st1,h1,h2⟩:=V9 hr
 exact Ak.seq (Ak.reg h1 hl (Ak.less h2 h))
theorem Ak.rgQ {id:Nat} {l:List Oper} {c:Code} {Q:Exit→St→Prop} {ss:List Stp} {cs:List Prop} (st':St) (h1:P.follows .mixedOrders =true) (h2:Region.lexB .any l.toArray=true) (hr:Uu (HO P F.I true l.toArray l ss st) st'=some (cs,st')) (hl:BE cs) (h:Ak P F c st' Q):Ak P F (.seq (.region id l.toArray true) c) st Q:=by
 obtain⟨st1,h3,h4⟩:=V9 hr
 exact Ak.seq (Ak.regQ h1 h2 h3 hl (Ak.less h4 h))
end
abbrev vI (n:Int):V:= .c (.int .i64 n)
abbrev vB (b:Bool):V:= .c (.bool b)
abbrev vS (s:List UInt8):V:= .c (.str s)
abbrev vP (i:CI) (o:Nat):V:= .c (.ptr i o)
abbrev vO (i:CI):V:= .c (.osl i)
abbrev vL {α:Type} (e:α→List C) (l:List α):V:= .c (.sl l.length (l.flatMap e))
abbrev vX {α:Type} (e:α→List C) (l:List α) (o:Nat):V:= .c (.iptr (l.flatMap e) o)
abbrev vA {α:Type} (e:α→List C) (x:α):V:= .agg (e x)
abbrev bx (i:CI) (cs:List C):C3:=⟨i,none,cs,false⟩
abbrev Bp {α:Type} (i:CI) (E N:Nat) (e:α→List C) (l:List α):C3:=⟨i,some (E,N,l.length),l.flatMap e,true⟩
end Go.PL
namespace Go.PL
theorem gT {p:Bool} (h:p=true):(p==true)=true:=by subst h;rfl
theorem gF {p:Bool} (h:p=false):(p==false)=true:=by subst h;rfl
theorem gA {p q:Bool} (h:p=true) (k:q=true):(p&&q)=true:=by subst h;subst k;rfl
end Go.PL
namespace Go.PL
open Go Go.RowKit
def St.setCell (st:St) (i:CI) (j:Nat) (c:C):St:={st with so:=st.so.map fun e=>if e.id==i&& !e.pu then⟨e.id,e.row,e.cs.set j c,false⟩else e}
def St.nilAt (st:St) (i:CI) (j:Nat):Bool:=
 match st.look i with
 | some e=> !e.pu&&(match e.cs[j]? with
   | some .nils =>true
   | _=>false)
 | none=>false
theorem RO {w:World} {G:B4}: ∀ {cs:List C} {b o j:Nat} {c:C},A9 w G cs b o→(∀ v d,cs[j]? =some d→Ax w G d v→Ax w G c v)→A9 w G (cs.set j c) b o
 | [],_,_,_,_,h,_=>by simpa using h
 | d::cs,b,o,0,c,h,hc=>by
   simp only [A9]at h
   simp only [List.set_cons_zero,A9]
   obtain⟨⟨v,h1,h2⟩,h3⟩:=h
   exact⟨⟨v,h1,hc v d (by simp) h2⟩,h3⟩
 | d::cs,b,o,j+1,c,h,hc=>by
   simp only [A9]at h
   simp only [List.set_cons_succ,A9]
   exact⟨h.1,RO h.2 (fun v d hd=>hc v d (by simpa using hd))⟩
theorem R.setCell {F:Fr} {st:St} {a:Act} {w:World} {G:B4} (h:R F st a w G) {i k:CI} {j:Nat} (hn:st.nilAt i j=true) (hk:G.own k=some (.slice none 0 0)):R F (st.setCell i j (.osl k)) a w G:={
 dfr:=h.dfr,size:=h.size,slots:=h.slots,ghosts:=h.ghosts
 store:=by
  intro e' he'
  simp only [St.setCell,List.mem_map]at he'
  obtain⟨e,he,rfl⟩:=he'
  split
  ·rename_i hc
   simp only [Bool.and_eq_true,beq_iff_eq,Bool.not_eq_true']at hc
   have hE:=h.store e he
   have hee: ∃ x,st.look i=some x∧x=e:=by
    unfold St.nilAt at hn
    cases hl:st.look i with
    | none=>rw [hl]at hn;cases hn
    | some x=>
      refine⟨x,rfl,?_⟩
      obtain⟨hm,hid⟩:=DL hl
      have hp:=List.pairwise_map.1 h.nodup
      rcases List.mem_iff_getElem.1 hm with ⟨p,hp1,rfl⟩
      rcases List.mem_iff_getElem.1 he with ⟨q,hq1,rfl⟩
      rcases Nat.lt_trichotomy p q with z | z | z
      ·exact absurd (hid.trans hc.1.symm) (List.pairwise_iff_getElem.1 hp p q hp1 hq1 z)
      ·subst z;rfl
      ·exact absurd (hc.1.trans hid.symm) (List.pairwise_iff_getElem.1 hp q p hq1 hp1 z)
   obtain⟨x,hx,rfl⟩:=hee
   have hnil:x.cs[j]? =some .nils :=by
    unfold St.nilAt at hn
    rw [hx]at hn
    simp only [Bool.and_eq_true]at hn
    have:=hn.2
    split at this
    ·assumption
    ·cases this
   have hc': ∀ v d,x.cs[j]? =some d→Ax w G d v→Ax w G (.osl k) v:=by
    intro v d hd hr
    rw [hnil]at hd
    injection hd with hd;subst hd
    simp only [Ax]at hr ⊢
    subst hr
    exact⟨hk,rfl⟩
   unfold I4 at hE ⊢
   simp only
   split at hE
   ·rename_i hrn
    obtain⟨b,h1,hbx⟩:=hE
    obtain⟨T,cur,h2,h3,h4⟩:=hbx.cells (Sf hx hrn)
    exact⟨b,h1, .inr ⟨T,cur,h2,by simpa using h3,RO h4 hc'⟩⟩
   ·obtain⟨hl,v,h1,h2⟩:=hE
    refine⟨by simpa using hl,v,h1,?_⟩
    rcases h2 with h2 | ⟨b,cap,cur,e1,e2,e3,e4,e5,e6,e7⟩
    ·exact .inl h2
    ·exact .inr ⟨b,cap,cur,e1,e2,e3,e4,e5,e6,RO e7 hc'⟩
  ·exact h.store e he
 pures:=by
  intro e' he'
  simp only [St.setCell,List.mem_map]at he'
  obtain⟨e,he,rfl⟩:=he'
  split
  ·intro hq;cases hq
  ·exact h.pures e he
 nodup:=by
  have:((st.setCell i j (.osl k)).so.map (·.id))=st.so.map (·.id):=by
   simp only [St.setCell,List.map_map]
   apply List.map_congr_left
   intro d _
   simp only [Function.comp]
   split<;>rfl
  rw [this];exact h.nodup
 inj:=h.inj,lt:=h.lt,new:=h.new,wr:=h.wr,avlt:=h.avlt,inv:=h.inv,avold:=h.avold,os:=h.os,tape:=h.tape,output:=h.output,hsize:=h.hsize,ext:=h.ext}
def eX (st:St) (i:CI) (j:Nat) (k:CI) (E n:Nat):Option St:=
 match (st.new ⟨k,some (E,n,0),[],true⟩).nilAt i j with
 | true=>some ((st.new ⟨k,some (E,n,0),[],true⟩).setCell i j (.osl k))
 | false=>none
theorem Ak.own {P:Program} {F:Fr} {c:Code} {st:St} {Q:Exit→St→Prop} (i:CI) (j:Nat) (k:CI) (E n:Nat) (st':St) (h:eX st i j k E n=some st') (hh:Ak P F c st' Q):Ak P F c st Q:=by
 unfold eX at h
 split at h
 ·rename_i hn
  injection h with h;subst h
  intro a w G hR
  have h1:=hR.nilRow k E n
  exact hh a w _ (h1.setCell hn (by simp [HK]))
 ·cases h
end Go.PL
namespace Go.PL
open Go
theorem BD {x:Int} (h0: -9223372036854775808≤x) (h1:x≤9223372036854775807):Ab x=x:=by
 unfold Ab;rw [IntKind.wrap_i64];omega
theorem Pf {x:Int} (h0:0≤x) (h1:x≤18446744073709551615):IntKind.u64.wrap x=x:=by
 unfold IntKind.wrap
 simp only [IntKind.bits,IntKind.signed,Bool.false_and]
 simp
 omega
theorem jm {x:Int} (h0:0≤x) (h1:x≤255):IntKind.u8.wrap x=x:=by
 unfold IntKind.wrap
 simp only [IntKind.bits,IntKind.signed,Bool.false_and]
 simp
 omega
section
variable {σ ρ:Type} {B:σ→Option (σ⊕ρ)}
theorem Ew {n:Nat} {s s':σ} (h:B s=some (.inl s')):iter B (n+1) s=iter B n s':=by simp [iter,h]
theorem DM {n:Nat} {s:σ} {r:ρ} (h:B s=some (.inr r)):iter B (n+1) s=some r:=by simp [iter,h]
theorem bj {S:Nat→σ} {r:ρ} {j:Nat} (hs: ∀ i,i<j→B (S i)=some (.inl (S (i+1)))) (he:B (S j)=some (.inr r)): ∀ (k N i:Nat),i+k=j→k<N→iter B N (S i)=some r
 | 0,N+1,i,hi,_=>by obtain rfl:i=j:=by omega
                    exact DM he
 | k+1,N+1,i,hi,hN=>by rw [Ew (hs i (by omega))];exact bj hs he k N (i+1) (by omega) (by omega)
theorem gR (S:Nat→σ) {r:ρ} (j:Nat) (hj:j<9223372036854775807) (hs: ∀ i,i<j→B (S i)=some (.inl (S (i+1)))) (he:B (S j)=some (.inr r)) {s0:σ} (h0:s0=S 0):iter B FU s0=some r:=by
 subst h0;exact bj hs he j FU 0 (by omega) hj
end
section
variable {α:Type} [Inhabited α] {l:List α} {i:Int}
theorem Sw (h:0≤i∧i<l.length):idx l i=some (l.getD i.toNat default):=if_pos h
theorem BA {k:Nat} (h:k<l.length):idx l (k:Int)=some l[k]:=by
 rw [Sw ⟨by omega,by omega⟩]
 simp [List.getD_eq_getElem?_getD,h]
theorem Zh (o:Option α):gd true o=o:=if_pos rfl
theorem bl (o:Option α):gd false o=some default:=if_neg (by simp)
end
theorem bm {α:Type} {b:Nat} {l m:List α} (h:(l.length+m.length)*b≤140737488355328∧l.length+m.length≤maxLen):app b l m=some (l++m):=if_pos h
theorem LG {a b:List UInt8} (h:a.length+b.length≤maxLen):cat a b=some (a++b):=if_pos h
theorem MJ {p:Prop} [Decidable p] (h:p):need p=some ():=if_pos h
def nK (n:Int):UInt8:=UInt8.ofNat (48+(n.toNat % 10))
theorem Pg (k u:Nat) (h:u<10 ^ (k+1)):(Lib.decDigits u).length ≤k+1:=by
 induction k generalizing u with
 | zero=>rw [Lib.decDigits,dif_pos (by omega)];simp
 | succ k ih=>
   rw [Lib.decDigits]
   split
   ·simp
   ·have:=ih (u / 10) (by rw [Nat.pow_succ]at h;omega)
    simp;omega
theorem Sx {n:Int} (h0: -9223372036854775808≤n) (h1:n≤9223372036854775807):(Lib.itoa n).length ≤21:=by
 unfold Lib.itoa
 split
 ·have:=Pg 19 n.natAbs (by omega);simp;omega
 ·have:=Pg 19 n.toNat (by omega);omega
theorem bn {u:Int} (h0:0≤u):Lib.decDigits u.toNat=(if u / 10=0 then [] else Lib.decDigits (u / 10).toNat)++[nK u]:=by
 conv=>lhs;rw [Lib.decDigits]
 by_cases h:u.toNat<10
 ·rw [dif_pos h,if_pos (by omega),nK,Nat.mod_eq_of_lt h];rfl
 ·have e:u.toNat / 10=(u / 10).toNat :=by omega
  rw [dif_neg h,if_neg (by omega),nK,e]
def jo (u:Int) (s:List UInt8):Option ((Int×(List UInt8))⊕((List UInt8))):=
 (if(decide ((0:Int)<u))=true then
  (need (∀ n∈([IntKind.u8.wrap (IntKind.u64.wrap ((48:Int)+(Int.tmod u (10:Int))))]:List (Int)),0≤n∧n<256)).bind fun _=>
  (cat (M4 ([IntKind.u8.wrap (IntKind.u64.wrap ((48:Int)+(Int.tmod u (10:Int))))]:List (Int))) s).bind fun s12=>
  some (.inl ((IntKind.u64.wrap (Int.tdiv u (10:Int))),s12))
 else
  some (.inr s))
def Zi (a0:Int):Option ((List UInt8)):=
 (need (∀ n∈([IntKind.u8.wrap (IntKind.u64.wrap ((48:Int)+(Int.tmod a0 (10:Int))))]:List (Int)),0≤n∧n<256)).bind fun _=>
 (iter (fun(v:Int×(List UInt8))=>jo v.1 v.2) FU ((IntKind.u64.wrap (Int.tdiv a0 (10:Int))),(M4 ([IntKind.u8.wrap (IntKind.u64.wrap ((48:Int)+(Int.tmod a0 (10:Int))))]:List (Int))))).bind (fun o0=>some o0)
def gS (a0:Int):Option ((List UInt8)):=
 (if(decide (a0<(0:Int)))=true then
  (Zi (IntKind.u64.wrap (0 - (IntKind.u64.wrap (a0))))).bind fun r2=>
  (cat [45] r2).bind fun s3=>
  some s3
 else
  (Zi (IntKind.u64.wrap (a0))).bind fun r4=>
  some r4)
theorem gU {u:Int} (h0:0≤u) (h1:u≤18446744073709551615):IntKind.u8.wrap (IntKind.u64.wrap ((48:Int)+(Int.tmod u (10:Int))))=48+((u.toNat % 10:Nat):Int):=by
 have e:Int.tmod u 10=((u.toNat % 10:Nat):Int):=by
  rw [Int.tmod_eq_emod_of_nonneg h0];omega
 rw [e,Pf (by omega) (by omega),jm (by omega) (by omega)]
theorem gV {u:Int} (h0:0≤u) (h1:u≤18446744073709551615):IntKind.u64.wrap (Int.tdiv u (10:Int))=u / 10:=by
 rw [Int.tdiv_eq_ediv_of_nonneg h0,Pf (by omega) (by omega)]
theorem bp {u:Int} (h0:0≤u) (h1:u≤18446744073709551615): ∀ n∈([IntKind.u8.wrap (IntKind.u64.wrap ((48:Int)+(Int.tmod u (10:Int))))]:List (Int)),0≤n∧n<256:=by
 rw [gU h0 h1]
 intro n hn
 simp at hn
 omega
theorem Yo {u:Int} (h0:0≤u) (h1:u≤18446744073709551615):M4 ([IntKind.u8.wrap (IntKind.u64.wrap ((48:Int)+(Int.tmod u (10:Int))))]:List (Int))=[nK u]:=by
 rw [gU h0 h1]
 simp only [M4,nK,List.map_cons,List.map_nil]
 congr 2
theorem nL {u:Int} {s:List UInt8} (h0:0<u) (h1:u≤18446744073709551615) (hs:s.length≤1000):jo u s=some (.inl (u / 10,nK u::s)):=by
 unfold jo
 rw [if_pos (by simpa using h0),MJ (bp (by omega) h1),Yo (by omega) h1,LG (by simp [maxLen];omega),gV (by omega) h1]
 rfl
theorem bq (s:List UInt8):jo 0 s=some (.inr s):=by simp [jo]
theorem br: ∀ (k:Nat) (u:Int) (s:List UInt8) (N:Nat),0≤u→u<10 ^ k→u≤18446744073709551615→s.length+k≤1000→k<N→
 iter (fun(v:Int×(List UInt8))=>jo v.1 v.2) N (u,s)=some ((if u=0 then [] else Lib.decDigits u.toNat)++s)
 | 0,u,s,N+1,h0,h1,h2,hs,hN=>by
   obtain rfl:u=0:=by simp at h1;omega
   rw [DM (r:=s) (bq s)];rfl
 | k+1,u,s,N+1,h0,h1,h2,hs,hN=>by
   by_cases hu:u=0
   ·subst hu;rw [DM (r:=s) (bq s)];rfl
   ·rw [Ew (s':=(u / 10,nK u::s)) (nL (by omega) h2 (by show s.length≤1000;omega)),br k (u / 10) (nK u::s) N (by omega) (by rw [Int.pow_succ]at h1;omega) (by omega) (by simp;omega) (by omega)]
    rw [if_neg hu]
    congr 1
    rw [bn (u:=u) h0,List.append_assoc];rfl
theorem Yp {u:Int} (h0:0≤u) (h1:u≤18446744073709551615):Zi u=some (Lib.decDigits u.toNat):=by
 unfold Zi
 rw [MJ (bp h0 h1),Yo h0 h1,gV h0 h1]
 simp only [Option.bind_some]
 rw [br 20 (u / 10) [nK u] FU (by omega) (by omega) (by omega) (by simp) (by simp [FU])]
 simp only [Option.bind_some]
 congr 1
 exact(bn h0).symm
theorem bt {n:Int} (h0: -9223372036854775808≤n) (h1:n≤9223372036854775807):gS n=some (Lib.itoa n):=by
 have wu: ∀ x:Int,IntKind.u64.wrap x=x % 18446744073709551616:=by
  intro x
  unfold IntKind.wrap
  simp [IntKind.bits,IntKind.signed]
 unfold gS Lib.itoa
 by_cases hn:n<0
 ·rw [if_pos (by simpa using hn),if_pos hn]
  have e:IntKind.u64.wrap (0 - IntKind.u64.wrap n)= -n:=by rw [wu,wu];omega
  rw [e,Yp (by omega) (by omega)]
  have hl:=Pg 19 (-n).toNat (by omega)
  simp only [Option.bind_some]
  rw [LG (by simp [maxLen];omega)]
  have e2:(-n).toNat =n.natAbs:=by omega
  rw [e2];rfl
 ·rw [if_neg (by simpa using hn),if_neg hn,Pf (by omega) (by omega),Yp (by omega) (by omega)]
  rfl
end Go.PL
namespace Go.PL
open Go Go.RowKit Go.WideShapes Go.ChangeShapes
def Ev (k:IntKind) (v:Int):Prop:=(Lit.int k v).wf =true
def Zj (_:Bool):Prop:=True
def sb (v:List UInt8):Prop:=v.length≤reachBytes
def SA {α:Type} (b:Nat) (ok:α→Prop) (l:List α):Prop:=l.length*b≤reachBytes∧ ∀ y∈l,ok y
section
variable {P:Program} {t e:TypeId} {n:Nat} {cs:List C}
theorem dI {k:IntKind} (hu:P.underlying t=some (.int k)) (h:BK P n t cs): ∃ z,cs=eI k z∧Ev k z:=jd hu h
theorem dB (hu:P.underlying t=some .bool) (h:BK P n t cs): ∃ b,cs=eB b∧Zj b:=eK hu h
theorem dS (hu:P.underlying t=some .string) (h:BK P n t cs): ∃ s,cs=eS s∧sb s:=je hu h
theorem dL {α:Type} {enc:α→List C} {ok:α→Prop} {b:Nat} (hu:P.underlying t=some (.slice e)) (hb:P.bytesOf e=b) (hd: ∀ {n ds},BK P n e ds→ ∃ x,ds=enc x∧ok x) (h:BK P n t cs):
 ∃ l:List α,cs=eL enc l∧SA b ok l:=kL hu hb (fun _ _=>hd) h
theorem dA {α:Type} {m:Nat} {enc:α→List C} {ok:α→Prop} (hu:P.underlying t=some (.array m e)) (hd: ∀ {n ds},BK P n e ds→ ∃ x,ds=enc x∧ok x) (h:BK P n t cs):
 ∃ l:List α,l.length=m∧cs=l.flatMap enc∧ ∀ y∈l,ok y:=by
 cases n with
 | zero=>exact h.elim
 | succ n=>
   simp only [BK,hu]at h
   obtain⟨dss,rfl,h2,h3⟩:=h
   obtain⟨l,rfl,h5⟩:=V5 (fun _=>hd) h3
   exact⟨l,by simpa using h2,by rw [List.flatMap_def],h5⟩
end
section
variable {R:TypeId→List C→Prop}
theorem Av {t:TypeId} {ts:List TypeId} {α β:Type} {e:α→List C} {E:β→List C} {ok:α→Prop} {OK:β→Prop} (hd: ∀ {ds},R t ds→ ∃ x,ds=e x∧ok x) (hr: ∀ {dss},Tp R ts dss→ ∃ y,dss.flatten=E y∧OK y) {dss:List (List C)} (h:Tp R (t::ts) dss):
 ∃ p:α×β,dss.flatten=e p.1++E p.2∧ok p.1∧OK p.2:=by
 simp only [Tp]at h
 obtain⟨ds,r,rfl,h1,h2⟩:=h
 obtain⟨x,rfl,h3⟩:=hd h1
 obtain⟨y,h4,h5⟩:=hr h2
 exact⟨(x,y),by rw [List.flatten_cons,h4],h3,h5⟩
theorem I2 {dss:List (List C)} (h:Tp R [] dss): ∃ _:Unit,dss.flatten=[]∧True:=by
 simp only [Tp]at h
 subst h
 exact⟨(),rfl,trivial⟩
end
section
variable {H:Type} {enc:TypeId×Value→H} {P:Program} {W:World} {spare:Nat→Bool} {r:Reach} {base:Nat} {t:TypeId} {v:Value} {d:DataW H} {ps:List MemPlace}
theorem Wa {ts:List TypeId} {ds:List (DataW H)} (h:(DataW.weightsEach P (t::ts) (d::ds)).all (· ≤reachBytes)=true):(d.weights P t).all (· ≤reachBytes)=true∧(DataW.weightsEach P ts ds).all (· ≤reachBytes)=true:=by
 simpa only [DataW.weightsEach,List.all_append,Bool.and_eq_true] using h
theorem nM {α:Type} {e:α→List C} {ok:α→Prop} {fs:Array Field} (k:Nat) (hk:nj P k t=true) (hu:P.underlying t=some (.struct fs)) (hd: ∀ {n cs},BK P n t cs→ ∃ x,cs=e x∧ok x)
 (hv:Value.okWide P W r base t v) (h:DataW.Trod enc P W 0 spare true t v d ps) (hw:(d.weights P t).all (· ≤reachBytes)=true): ∃ x,ok x∧Ap W (im fun _=>False) (vA e x) v:=by
 obtain⟨arr,rfl,_⟩:=okWide_struct hu hv
 obtain⟨fuel,h⟩:=h
 obtain⟨cs,h1,h2,_⟩:=OA (G:=im fun _=>False) (fun _ _ h=>h) k t hk fuel _ _ h hw
 obtain⟨x,rfl,h4⟩:=hd h2
 exact⟨x,h4,by simp only [Ap];exact⟨arr,rfl,h1⟩⟩
theorem nO {α:Type} {e:α→C} {ok:α→Prop} (k:Nat) (hk:nj P k t=true) (hd: ∀ {n cs},BK P n t cs→ ∃ x,cs=[e x]∧ok x)
 (hc:v.cells.toList=[v]) (h:DataW.Trod enc P W 0 spare true t v d ps) (hw:(d.weights P t).all (· ≤reachBytes)=true): ∃ x,ok x∧Ap W (im fun _=>False) (.c (e x)) v:=by
 obtain⟨fuel,h⟩:=h
 obtain⟨cs,h1,h2,_⟩:=OA (G:=im fun _=>False) (fun _ _ h=>h) k t hk fuel _ _ h hw
 obtain⟨x,rfl,h4⟩:=hd h2
 rw [hc]at h1
 simp only [AH]at h1
 exact⟨x,h4,by simp only [Ap];exact h1.1⟩
theorem qJ {α:Type} {e:α→List C} {ok:List α→Prop} {u:TypeId} (n:Nat) (hk:nj P n t=true) (hu:P.underlying t=some (.slice u)) (hd: ∀ {n cs},BK P n t cs→ ∃ x,cs=eL e x∧ok x)
 (hv:Value.okWide P W r base t v) (h:DataW.Trod enc P W 0 spare true t v d ps) (hw:(d.weights P t).all (· ≤reachBytes)=true): ∃ x,ok x∧Ap W (im fun _=>False) (vL e x) v:=by
 obtain⟨a,len,cap,rfl⟩:=okWide_slice hu hv
 exact nO (e:=fun x:List α=> .sl x.length (x.flatMap e)) n hk hd rfl h hw
end
end Go.PL
namespace Go.PL
open Go
def W {α:Type} (o:Option α) (Q:α→Prop):Prop:= ∃ r,o=some r∧Q r
def LQ {σ ρ:Type} (I:σ→Prop) (m:σ→Nat) (s:σ) (K:ρ→Prop):σ⊕ρ→Prop:=Sum.elim (fun s'=>I s'∧m s'<m s) K
section
variable {α β σ ρ:Type} {o:Option α} {P Q':α→Prop} {f:α→Option β} {Q:β→Prop} {v:α} {g c:Bool}
theorem W.bd (h:W o P) (k: ∀ x,P x→W (f x) Q):W (o.bind f) Q:=by
 obtain⟨r,rfl,h2⟩:=h;exact k r h2
theorem W.lt (k: ∀ x,x=v→W (f x) Q):W ((some v).bind f) Q:=k v rfl
theorem W.if {a b:Option β} (k1:c=true→W a Q) (k2:c=false→W b Q):W (if c=true then a else b) Q:=by
 cases c
 ·exact k2 rfl
 ·exact k1 rfl
theorem W.imp {Q2:α→Prop} (h:W o P) (k: ∀ x,P x→Q2 x):W o Q2:=by obtain⟨r,h1,h2⟩:=h;exact⟨r,h1,k r h2⟩
theorem Wb [Inhabited α] {l:List α} {i:Nat} (h:i<l.length):l.getD i default∈l:=by
 rw [List.getD_eq_getElem?_getD,List.getElem?_eq_getElem h]
 exact List.getElem_mem h
theorem W.idx [Inhabited α] {l:List α} {i:Int} (h:0≤i∧i<l.length):W (idx l i) (fun e=>e∈l∧e=l.getD i.toNat default∧idx l i=some e):=
 ⟨_,Sw h,Wb (by omega),rfl,Sw h⟩
theorem W.re (h:o=some v) (k:W (f v) Q):W (o.bind f) Q:=by subst h;exact k
theorem W.app {b:Nat} {l m:List α} (h:(l.length+m.length)*b≤140737488355328) (h2:l.length+m.length≤maxLen):W (app b l m) (fun e=>e=l++m):=⟨_,bm ⟨h,h2⟩,rfl⟩
theorem W.cat {a b:List UInt8} (h:a.length+b.length≤9223372036854775807):W (cat a b) (fun e=>e=a++b∧e.length=a.length+b.length):=⟨_,LG (by unfold maxLen;omega),rfl,List.length_append⟩
theorem W.need {p:Prop} [Decidable p] (h:p):W (need p) (fun _=>True):=⟨_,MJ h,trivial⟩
theorem W.nx {I:σ→Prop} {m:σ→Nat} {s s':σ} {K:ρ→Prop} (h:I s') (h2:m s'<m s):W (some (.inl s':σ⊕ρ)) (LQ I m s K):=⟨_,rfl,h,h2⟩
theorem W.ex {I:σ→Prop} {m:σ→Nat} {s:σ} {K:ρ→Prop} {r:ρ} (h:K r):W (some (.inr r:σ⊕ρ)) (LQ I m s K):=⟨_,rfl,h⟩
theorem lc {B:σ→Option (σ⊕ρ)} {I:σ→Prop} {m:σ→Nat} {K:ρ→Prop} (hs: ∀ s,I s→W (B s) (LQ I m s K)): ∀ (n:Nat) (s:σ),I s→m s<n→W (iter B n s) K
 | 0,_,_,h=>by omega
 | n+1,s,hI,hm=>by
   obtain⟨x,h1,h2⟩:=hs s hI
   cases x with
   | inl s'=>rw [Ew h1];exact lc hs n s' h2.1 (by have:=h2.2;omega)
   | inr r=>rw [DM h1];exact⟨r,rfl,h2⟩
theorem W.it {B:σ→Option (σ⊕ρ)} {f:ρ→Option β} {s0:σ} (I:σ→Prop) (m:σ→Nat) (h0:I s0) (hm:m s0<9223372036854775807) (hs: ∀ s,I s→W (B s) (LQ I m s (fun r=>W (f r) Q))):W ((iter B FU s0).bind f) Q:=by
 obtain⟨r,h1,h2⟩:=lc hs FU s0 h0 hm
 rw [h1]
 exact h2
end
theorem W.sidx {l:List UInt8} {i:Int} (h:0≤i∧i<l.length):W (sidx l i) (fun e=>0≤e∧e<256):=by
 refine⟨_,if_pos h,?_,?_⟩
 ·omega
 ·have:=(l.getD i.toNat 0).toNat_lt
  omega
theorem W.ssub {l:List UInt8} {i j:Int} (h:0≤i∧i≤j∧j≤l.length):W (ssub l i j) (fun e=>(e.length:Int)=j - i):=by
 refine⟨_,if_pos h,?_⟩
 simp only [List.length_take,List.length_drop]
 omega
theorem uk {p:Prop} [Decidable p] {b:Bool}:((if p then true else b)=true)=(p∨b=true):=by by_cases h:p<;>simp [h]
theorem ul {p:Prop} [Decidable p] {b:Bool}:((if p then true else b)=false)=(¬p∧b=false):=by by_cases h:p<;>simp [h]
theorem um {p:Prop} [Decidable p] {b:Bool}:((if p then b else false)=true)=(p∧b=true):=by by_cases h:p<;>simp [h]
theorem un {p:Prop} [Decidable p] {b:Bool}:((if p then b else false)=false)=(¬p∨b=false):=by by_cases h:p<;>simp [h]
theorem up {a:Bool}:((!a)=true)=(a=false):=by cases a<;>simp
theorem uq {a:Bool}:((!a)=false)=(a=true):=by cases a<;>simp
theorem ur {p:Prop} [Decidable p]:(decide p=true)=p:=by simp
theorem ut {p:Prop} [Decidable p]:(decide p=false)= ¬p:=by simp
theorem uu {a b:Int}:((a==b)=true)=(a=b):=by simp
theorem uv {a b:Int}:((a==b)=false)= ¬(a=b):=by simp
theorem sv {a b:Int}:((a != b)=true)= ¬(a=b):=by simp
theorem sw {a b:Int}:((a != b)=false)=(a=b):=by simp
theorem sx {a:Bool}:((a==true)=true)=(a=true):=by cases a<;>simp
theorem sy {a:Bool}:((a==true)=false)=(a=false):=by cases a<;>simp
theorem sz {a:Bool}:((a==false)=true)=(a=false):=by cases a<;>simp
theorem sA {a:Bool}:((a==false)=false)=(a=true):=by cases a<;>simp
theorem sB {a b:Bool}:((a&&b)=true)=(a=true∧b=true):=by cases a<;>simp
theorem sC {a b:Bool}:((a&&b)=false)=(a=false∨b=false):=by cases a<;>simp
theorem sD {a b:List UInt8}:((a==b)=true)=(a=b):=by simp
theorem sE {a b:List UInt8}:((a==b)=false)= ¬(a=b):=by simp
theorem sF {a b:List UInt8}:((a != b)=true)= ¬(a=b):=by simp
theorem sG {a b:List UInt8}:((a != b)=false)=(a=b):=by simp
theorem sH {a:Bool}:(¬(a=true))=(a=false):=by cases a<;>simp
theorem sJ {a:Bool}:(¬(a=false))=(a=true):=by cases a<;>simp
theorem sK {p q:Prop}:(¬(p∨q))=(¬p∧ ¬q):=propext not_or
theorem bz:(∀ {p:Prop} [Decidable p] {b:Bool},((if p then true else b)=true)=(p∨b=true))∧(∀ {p:Prop} [Decidable p] {b:Bool},((if p then true else b)=false)=(¬p∧b=false))∧(∀ {p:Prop} [Decidable p] {b:Bool},((if p then b else false)=true)=(p∧b=true))∧(∀ {p:Prop} [Decidable p] {b:Bool},((if p then b else false)=false)=(¬p∨b=false))∧(∀ {a:Bool},((!a)=true)=(a=false))∧(∀ {a:Bool},((!a)=false)=(a=true))∧(∀ {p:Prop} [Decidable p],(decide p=true)=p)∧(∀ {p:Prop} [Decidable p],(decide p=false)= ¬p)∧(∀ {a b:Int},((a==b)=true)=(a=b))∧(∀ {a b:Int},((a==b)=false)= ¬(a=b))∧(∀ {a b:Int},((a != b)=true)= ¬(a=b))∧(∀ {a b:Int},((a != b)=false)=(a=b))∧(∀ {a:Bool},((a==true)=true)=(a=true))∧(∀ {a:Bool},((a==true)=false)=(a=false))∧(∀ {a:Bool},((a==false)=true)=(a=false))∧(∀ {a:Bool},((a==false)=false)=(a=true))∧(∀ {a b:Bool},((a&&b)=true)=(a=true∧b=true))∧(∀ {a b:Bool},((a&&b)=false)=(a=false∨b=false))∧(∀ {a b:List UInt8},((a==b)=true)=(a=b))∧(∀ {a b:List UInt8},((a==b)=false)= ¬(a=b))∧(∀ {a b:List UInt8},((a != b)=true)= ¬(a=b))∧(∀ {a b:List UInt8},((a != b)=false)=(a=b))∧(∀ {a:Bool},(¬(a=true))=(a=false))∧(∀ {a:Bool},(¬(a=false))=(a=true))∧(∀ {p q:Prop},(¬(p∨q))=(¬p∧ ¬q)):=⟨@uk, @ul, @um, @un, @up, @uq, @ur, @ut, @uu, @uv, @sv, @sw, @sx, @sy, @sz, @sA, @sB, @sC, @sD, @sE, @sF, @sG, @sH, @sJ, @sK⟩
end Go.PL
namespace Go.PL
open Go
set_option linter.all false
theorem Sd (g q:Bool):gd g (some q)=some (g&&q):=by cases g<;>rfl
theorem Ph (b q:Bool):(if b=true then q else false)=(b&&q):=by cases b<;>rfl
theorem PP (b q:Bool):(if b=true then true else q)=(b||q):=by cases b<;>rfl
theorem bT (b:Bool):(b==true)=b:=by cases b<;>rfl
theorem bF (b:Bool):(b==false)= !b:=by cases b<;>rfl
section
variable {α:Type} [Inhabited α] [DecidableEq α] {l m:List α} {B:Int→Option (Int⊕(Unit⊕Unit))}
end
theorem sL {α:Type} [DecidableEq α] (a b:α):(a==b)=decide (a=b):=by
 by_cases h:a=b
 ·subst h;simp
 ·simp [h]
theorem NM {α:Type} {b:Nat} {ok:α→Prop} {l:List α} (h:SA b ok l) (hb:1≤b:=by decide):l.length<9223372036854775807:=by
 have h1:=h.1
 have:l.length*1≤l.length*b:=Nat.mul_le_mul_left _ hb
 unfold reachBytes at h1
 omega
theorem nP {α:Type} {b:Nat} {ok:α→Prop} {l:List α} (h:SA b ok l) {i:Nat} (hi:i<l.length):ok l[i]:=h.2 _ (List.getElem_mem hi)
theorem aq (b q:Bool):(if b=true then some false else some q)=some (!b&&q):=by cases b<;>rfl
theorem ku (b q:Bool):(if b=true then some q else some false)=some (b&&q):=by cases b<;>rfl
theorem uZ (a b:Bool):(!a|| !(a&&b))=(!a|| !b):=by cases a<;>rfl
section
variable {α:Type} [Inhabited α] [DecidableEq α] {l m:List α} {B:Int→Option (Int⊕(Unit⊕Unit))}
end
theorem Rh {α:Type} [Inhabited α] (g:Bool) (x:α):gd g (some x)=some (if g=true then x else default):=by cases g<;>rfl
abbrev T {α:Type} (o:Option α):Prop:= ∃ r,o=some r
theorem kw {α:Type} {c:Bool} {a b:Option α} (h1:T a) (h2:T b):T (if c=true then a else b):=by
 cases c
 ·exact h2
 ·exact h1
theorem py {σ ρ β:Type} {B:σ→Option (σ⊕ρ)} {S:Nat→σ} {r:ρ} {k:ρ→Option β} {q:Option β} {s0:σ} (j:Nat) (hj:j<9223372036854775807) (h0:s0=S 0) (hs: ∀ i,i<j→B (S i)=some (.inl (S (i+1)))) (he:B (S j)=some (.inr r)) (hk:k r=q):(iter B FU s0).bind k=q:=by
 rw [gR S j hj hs he h0];exact hk
theorem Cu {α:Type} [Inhabited α] {l:List α} {i:Nat} (h:i<l.length):l.getD i default=l[i]:=by
 rw [List.getD_eq_getElem?_getD,List.getElem?_eq_getElem h];rfl
end Go.PL
namespace Go.PL
open Go Go.Lib
set_option linter.all false
end Go.PL
namespace Go.PL
open Go Go.RowKit
theorem aC {p:Prop} {l:List Prop} (h:p) (k:BE l):BE (p::l):=⟨h,k⟩
theorem aN:BE []:=trivial
abbrev sl (n:Nat) (l:List (Nat×V)) (so:List C3):St:=⟨slots n 0 l,so,[],[]⟩
abbrev sg (n:Nat) (l:List (Nat×V)) (so:List C3) (m:Nat) (g:List (Nat×V)) (p:CI):St:=⟨slots n 0 l,so,slots m 0 g,p⟩
theorem lT {st st':St} (h:P9 st st'=some st':=by kernel_rfl):D4 st st':=D4.t h
def RP:List CI→Bool
 | []=>true
 | i::l=> !(l.contains i)&&RP l
theorem Qa: ∀ {l:List CI},RP l=true→l.Nodup
 | [],_=>by simp
 | i::l,h=>by
   simp only [RP,Bool.and_eq_true,Bool.not_eq_true']at h
   refine List.nodup_cons.2 ⟨fun hm=>?_,Qa h.2⟩
   have:=List.contains_iff_mem.2 hm
   rw [h.1]at this;cases this
theorem D4.trans {a b c:St} (h:D4 a b) (k:D4 b c):D4 a c where
 len:=k.len.trans h.len
 tm:=fun i=>by
  rcases k.tm i with q | q
  ·exact .inl q
  ·rw [q];exact h.tm i
 so:=fun e he=>h.so e (k.so e he)
 nd:=fun hn=>k.nd (h.nd hn)
 gh:=⟨k.gh.1.trans h.gh.1,fun i=>by
  rcases k.gh.2 i with q | q
  ·exact .inl q
  ·rw [q];exact h.gh.2 i⟩
 pre:=k.pre.trans h.pre
def St.ids (st:St):List CI:=st.so.map (·.id)
theorem lU {st st':St} (hn:RP st'.ids=true:=by kernel_rfl) (h:P9 (bg st'.ids st) st'=some st':=by kernel_rfl):D4 st st':=(Tt _ (Qa hn) st).trans (D4.t h)
section
variable {P:Program} {F:Fr} {st:St} {id:Nat} {l:List Oper} {c:Code} {Q:Exit→St→Prop} {cs:List Prop} {K:St→Prop}
theorem Rg (ss:List Stp) (st':St) (hl:BE cs) (h:Ak P F c st' Q) (hr:Uu (HO P F.I false l.toArray l ss st) st'=some (cs,st'):=by kernel_rfl):Ak P F (.seq (.region id l.toArray false) c) st Q:=Ak.rg st' hr hl h
theorem Rq (h1:P.follows .mixedOrders =true) (ss:List Stp) (st':St) (hl:BE cs) (h:Ak P F c st' Q) (h2:Region.lexB .any l.toArray=true:=by kernel_rfl) (hr:Uu (HO P F.I true l.toArray l ss st) st'=some (cs,st'):=by kernel_rfl):Ak P F (.seq (.region id l.toArray true) c) st Q:=Ak.rgQ st' h1 h2 hr hl h
theorem Re (ss:List Stp) (st':St) (hl:BE cs) (h:Q .normal st') (hr:HO P F.I false l.toArray l ss st=some (cs,st'):=by kernel_rfl):Ak P F (.region id l.toArray false) st Q:=Ak.reg hr hl h
theorem Rp {I:World→Prop} {ops:Array Oper} (n:Nat) (ss:List Stp) (st':St) (hc:BE cs) (hK:Ct P I ops (l.drop n) st' K) (h:HO P I false ops (l.take n) ss st=some (cs,st'):=by kernel_rfl):Ct P I ops l st K:=Run.part n st' h hc hK
theorem Rw {I:World→Prop} {ops:Array Oper} (ss:List Stp) (st':St) (hc:BE cs) (hK:K st') (h:HO P I false ops l ss st=some (cs,st'):=by kernel_rfl):Ct P I ops l st K:=Run.whole st' h hc hK
theorem Ls (st':St) (h:Ak P F c st' Q) (hl:P9 st st'=some st':=by kernel_rfl):Ak P F c st Q:=Ak.less (D4.t hl) h
theorem Ow (i:CI) (j:Nat) (k:CI) (E n:Nat) (st':St) (hh:Ak P F c st' Q) (h:eX st i j k E n=some st':=by kernel_rfl):Ak P F c st Q:=Ak.own i j k E n st' h hh
theorem At (st':St) (hh:Ak P F c st' Q) (h:st=st':=by kernel_rfl):Ak P F c st Q:=h▸hh
theorem bE {rs:List ResultVar} {e:Exit} {r':V} (v r:V) (hr:r=r') (he:e= .normal ∨e= .ret :=by first | exact .inr rfl | exact .inl rfl) (h:UJ P st rs=some v:=by kernel_rfl) (hs:la st rs v=r:=by kernel_rfl) (hp:r.pure=true:=by kernel_rfl):
 (e= .normal ∨e= .ret)∧(I6 P st rs).1∧(I6 P st rs).2.pure =true∧(I6 P st rs).2=r':=gP he h hs hp hr
theorem bQ {rs:List ResultVar} {e:Exit} {r':V} (v:V) (hr:v=r') (he:e= .normal ∨e= .ret :=by first | exact .inr rfl | exact .inl rfl) (h:UJ P st rs=some v:=by kernel_rfl) (hs:la st rs v=v:=by kernel_rfl) (hp:v.pure=true:=by kernel_rfl):
 (e= .normal ∨e= .ret)∧(I6 P st rs).1∧(I6 P st rs).2.pure =true∧(I6 P st rs).2=r':=gP he h hs hp hr
end
theorem Tn {K:St→Prop} {Q:Exit→St→Prop} {st:St} (h:K st):Ca K Q .normal st:=h
theorem Tr {K:St→Prop} {Q:Exit→St→Prop} {st:St} (h:Q .ret st):Ca K Q .ret st:=h
theorem gi (g:Bool):g=true→g=true:=id
theorem g1 (g:Bool):g=true→BE [g=true→g=true]:=fun _=>⟨id,trivial⟩
theorem g2 (g:Bool):g=true→BE [g=true→g=true,g=true→g=true]:=fun _=>⟨id,id,trivial⟩
section
variable {l:List Prop}
theorem aB {e b:Bool} (h:some e=some b) (k:BE l):BE ((vB e=vB b)::l):=⟨congrArg vB (sI h),k⟩
theorem aT (b:Bool) (k:BE l):BE ((b=true→(b==true)=true)::l):=⟨fun q=>gT q,k⟩
theorem aF (b:Bool) (k:BE l):BE ((b=false→(b==false)=true)::l):=⟨fun q=>gF q,k⟩
theorem aG (g:Bool) (k:BE l):BE ((g=true→BE [g=true→g=true])::l):=⟨g1 g,k⟩
theorem aH (g:Bool) (k:BE l):BE ((g=true→BE [g=true→g=true,g=true→g=true])::l):=⟨g2 g,k⟩
end
section
variable {α:Type} [Inhabited α] {g:Bool} {o:Option α} {x:α} {p:Prop}
theorem c0 (h:gd g o=some x) (k:o=some x→p):g=true→BE []∧p:=fun hg=>⟨trivial,k (G8 h hg)⟩
theorem c1 (h:gd g o=some x) (k:o=some x→p):g=true→BE [g=true→g=true]∧p:=fun hg=>⟨⟨id,trivial⟩,k (G8 h hg)⟩
theorem c2 (h:gd g o=some x) (k:o=some x→p):g=true→BE [g=true→g=true,g=true→g=true]∧p:=fun hg=>⟨⟨id,id,trivial⟩,k (G8 h hg)⟩
theorem c3 (h:gd g o=some x) (k:o=some x→p):g=true→BE [g=true→g=true,g=true→g=true,g=true→g=true]∧p:=fun hg=>⟨⟨id,id,id,trivial⟩,k (G8 h hg)⟩
end
theorem Fq (k:IntKind): ∀ x,(eI k x).length =1:=fun _=>rfl
theorem OB: ∀ x,(eS x).length =1:=fun _=>rfl
section
variable {α:Type} [Inhabited α] {l m r:List α} {i:Int} {x:α} {e:α→List C} {N:Nat}
theorem DI (hx:idx l i=some x) (hN: ∀ y,(e y).length =N) (o n:Nat) (ag:Bool) (v:V) (hv:O6 ag o n (e x)=v:=by kernel_rfl) (ho:Nat.ble (o+n) N=true:=by kernel_rfl) (h0:(ag||Nat.blt 0 n)=true:=by kernel_rfl):
 i.toNat*N+o+n≤(l.flatMap e).length ∧O6 ag (i.toNat*N+o) n (l.flatMap e)=v:=
 gO hx hN rfl (Nat.le_of_ble_eq_true ho) (by simpa using h0) hv
theorem kx (hx:idx l i=some x) (hN: ∀ y,(e y).length =N) (cs:List C) (b m o n:Nat) (ag:Bool) (v:V) (hc:cs=cs.take b++(l.flatMap e++cs.drop m):=by kernel_rfl) (hb:(cs.take b).length =b:=by kernel_rfl) (hv:O6 ag o n (e x)=v:=by kernel_rfl) (ho:Nat.ble (o+n) N=true:=by kernel_rfl) (h0:(ag||Nat.blt 0 n)=true:=by kernel_rfl):
 b+i.toNat*N+o+n≤cs.length∧O6 ag (b+i.toNat*N+o) n cs=v:=
 L4 hc hb hx hN (Nat.add_assoc _ _ _) (Nat.le_of_ble_eq_true ho) (by simpa using h0) hv
omit [Inhabited α] in
theorem ND {b:Nat} (h:app b l m=some r) (e:α→List C):l.length+m.length=r.length∧l.flatMap e++m.flatMap e=r.flatMap e:=⟨by rw [pv h,List.length_append],by rw [pv h,List.flatMap_append]⟩
end
end Go.PL
namespace Go.PL
open Go Go.RowKit
def qK (st:St) (e:C3):St:={st with so:=e::st.so.filter (fun x=>x.id != e.id)}
theorem ld {id:CI} {v:V} (h:v.men id=false):Oy id v=v:=by unfold Oy;rw [if_neg (by simp [h])]
theorem Tv {id:CI}: ∀ {l:List V},(∀ v∈l,v.men id=false)→l.map (Oy id)=l
 | [],_=>rfl
 | v::l,h=>by rw [List.map_cons,ld (h v (by simp)),Tv (fun x hx=>h x (by simp [hx]))]
theorem bu {id:CI}: ∀ {l:List C},JE id l=false→l.map (Mj id)=l
 | [],_=>rfl
 | c::l,h=>by
   simp only [JE,Bool.or_eq_false_iff]at h
   rw [List.map_cons,bu h.2,Mj,if_neg (by simp [h.1])]
def C3.fre (id:CI) (e:C3):Bool:=e.pu|| !JE id e.cs
theorem C3.kill_eq {id:CI} {e:C3} (h:e.fre id=true):e.kill id=e:=by
 obtain⟨i,r,cs,pu⟩:=e
 cases pu
 ·simp only [C3.fre,Bool.false_or,Bool.not_eq_true']at h
  simp only [C3.kill,bu h]
 ·rfl
theorem qL {st:St} {e:C3} (h1: ∀ v∈st.tm,v.men e.id=false) (h2: ∀ x∈st.so,x.id=e.id∨x.fre e.id=true) (h3: ∀ v∈st.gh,v.men e.id=false) (h4:e.fre e.id=true):st.new e=qK st e:=by
 have a:(st.so.filter (fun x=>x.id != e.id)).map (C3.kill e.id)=st.so.filter (fun x=>x.id != e.id):=by
  have: ∀ l:List C3,(∀ x∈l,x.id=e.id∨x.fre e.id=true)→(l.filter (fun x=>x.id != e.id)).map (C3.kill e.id)=l.filter (fun x=>x.id != e.id):=by
   intro l
   induction l with
   | nil=>intro _;rfl
   | cons x l ih=>
     intro hl
     simp only [List.filter_cons]
     split
     ·rename_i hx
      rw [List.map_cons,ih (fun y hy=>hl y (by simp [hy]))]
      rcases hl x (by simp)with q | q
      ·simp [q]at hx
      ·rw [C3.kill_eq q]
     ·exact ih (fun y hy=>hl y (by simp [hy]))
  exact this _ h2
 unfold St.new qK St.kill
 simp only [a,Tv h1,Tv h3,C3.kill_eq h4]
def sc (P:Program) (st:St) (s:Stp) (o:Oper):Option (List Prop×C3×V):=
 match o.guard,o.dst,s with
 | none,some d, .a =>match o.op with
   | .alloc T=>match X1 P T with
     | some cs=>some ([],⟨d::st.pre,none,cs,false⟩, .c (.ptr (d::st.pre) 0))
     | none=>none
   | .box _ x=>match (CQ st true x).2.cells with
     | some cs=>some ((CQ st true x).1,⟨d::st.pre,none,cs,false⟩, .c (.ptr (d::st.pre) 0))
     | none=>none
   | .assign (.const (.slice none 0 0))=>match Mi P o.type with
     | some (E,n)=>some ([],⟨d::st.pre,some (E,n,0),[],true⟩, .c (.osl (d::st.pre)))
     | none=>none
   | .buildSlice t len ps=>match Pa P t with
     | some (E,n,_)=>match VH P E with
       | some z=>match PH (fun i=>some (i*n,n)) (Fa z len) ((Pd st true ps.toList).2.map aK)with
         | some cs=>match z.length==n&&Nat.blt 0 n&&Nat.ble (len*n) (2 ^ 24)&&Bw cs with
           | true=>some ((Pd st true ps.toList).1++[],⟨d::st.pre,some (E,n,len),cs,true⟩, .c (.osl (d::st.pre)))
           | false=>none
         | none=>none
       | none=>none
     | none=>none
   | _=>none
 | _,_,_=>none
theorem bw {P:Program} {I:World→Prop} {st:St} {s:Stp} {ops:Array Oper} {o:Oper} {l:List Prop} {e:C3} {v:V} (h:sc P st s o=some (l,e,v)):
 M3 P I false ops o s st=some (l,(st.new e).put o.dst v):=by
 obtain⟨dst,op,ty,pos,aft,gd⟩:=o
 unfold sc at h
 split at h
 ·rename_i d h1 h2
  simp only at h1 h2
  subst h1 h2
  split at h
  ·rename_i T hT
   simp only at hT;subst hT
   split at h
   ·rename_i cs hz
    simp only [Option.some.injEq,Prod.mk.injEq]at h
    obtain⟨rfl,rfl,rfl⟩:=h
    simp only [M3,DH,nk,hz]
   ·cases h
  ·rename_i T x hT
   simp only at hT;subst hT
   split at h
   ·rename_i cs hz
    simp only [Option.some.injEq,Prod.mk.injEq]at h
    obtain⟨rfl,rfl,rfl⟩:=h
    simp only [M3,DH,nk,hz]
   ·cases h
  ·rename_i hT
   simp only at hT;subst hT
   split at h
   ·rename_i E n hz
    simp only [Option.some.injEq,Prod.mk.injEq]at h
    obtain⟨rfl,rfl,rfl⟩:=h
    simp only [M3,DH,nk,hz]
   ·cases h
  ·rename_i t len ps hT
   simp only at hT;subst hT
   split at h
   ·rename_i E n b h1
    split at h
    ·rename_i z h2
     split at h
     ·rename_i cs h3
      split at h
      ·rename_i hb
       simp only [Option.some.injEq,Prod.mk.injEq]at h
       obtain⟨rfl,rfl,rfl⟩:=h
       simp only [M3,DH,nk,nJ,h1,h2,h3,hb,ji]
      ·cases h
     ·cases h
    ·cases h
   ·cases h
  ·cases h
 ·cases h
theorem qM {P:Program} {st:St} {s:Stp} {o:Oper} {l:List Prop} {e:C3} {v:V} (h:sc P st s {o with guard:=none}=some (l,e,v)):
 DH o.op= .ef ∧nk P st s o=some (l,(st.new e).put o.dst v):=by
 have hs:=bw (I:=fun _=>True) (ops:= #[]) h
 obtain⟨dst,op,ty,pos,aft,gd⟩:=o
 have hk:DH op= .ef :=by
  unfold sc at h
  split at h
  ·split at h
   all_goals first
    | (rename_i hT;simp only at hT;subst hT;rfl)
    | (cases h;done)
  ·cases h
 refine⟨hk,?_⟩
 unfold M3 at hs
 simp only [hk]at hs
 exact hs
def uw (P:Program) (st:St) (s:Stp) (ops:Array Oper) (o:Oper):Option (List Prop×C3×V):=
 match o.guard with
 | none=>sc P st s o
 | some (j,want)=>match sc P st s {o with guard:=none}with
   | some (l,e,v)=>match Mn st ops j want with
     | some g=>some (l++[g=true],e,v)
     | none=>none
   | none=>none
theorem lf {P:Program} {I:World→Prop} {st:St} {s:Stp} {ops:Array Oper} {o:Oper} {l:List Prop} {e:C3} {v:V} (h:uw P st s ops o=some (l,e,v)):
 M3 P I false ops o s st=some (l,(st.new e).put o.dst v):=by
 unfold uw at h
 split at h
 ·exact bw h
 ·rename_i j want hg
  split at h
  ·rename_i l1 e1 v1 h1
   split at h
   ·rename_i g hq
    simp only [Option.some.injEq,Prod.mk.injEq]at h
    obtain⟨rfl,rfl,rfl⟩:=h
    obtain⟨hk,he⟩:=qM h1
    unfold M3
    simp only [hg,hq,hk,he]
   ·cases h
  ·cases h
structure RD where
 tm:List (List (Nat×V)×V)
 so:List (List (Nat×C3)×Option C3)
 gh:List V
 pre:CI
def nQ (f:Nat→Bool):List (Nat×V)→V→V
 | [],u=>u
 | (i,v)::ws,u=>nQ f ws (cond (f i) v u)
def nS (f:Nat→Bool):List (Nat×C3)→Option C3→Option C3
 | [],u=>u
 | (i,v)::ws,u=>nS f ws (cond (f i) (some v) u)
def RD.st (d:RD) (f:Nat→Bool):St:=⟨d.tm.map (fun x=>nQ f x.1 x.2),d.so.filterMap (fun x=>nS f x.1 x.2),d.gh,d.pre⟩
theorem bA {id:CI} {f:Nat→Bool} {dead:Nat→Bool} (hd: ∀ j,dead j=true→f j=false): ∀ {ws:List (Nat×V)} {u:V},(ws.all fun y=>dead y.1|| !y.2.men id)=true→u.men id=false→(nQ f ws u).men id=false
 | [],u,_,h=>h
 | (i,v)::ws,u,h,hu=>by
   simp only [List.all_cons,Bool.and_eq_true,Bool.or_eq_true,Bool.not_eq_true']at h
   show (nQ f ws (cond (f i) v u)).men id=false
   refine bA (ws:=ws) hd h.2 ?_
   cases hf:f i
   ·exact hu
   ·rcases h.1 with q | q
    ·rw [hd i q]at hf;cases hf
    ·exact q
theorem bB {id:CI} {f:Nat→Bool} {dead:Nat→Bool} (hd: ∀ j,dead j=true→f j=false): ∀ {ws:List (Nat×C3)} {u:Option C3},(ws.all fun y=>dead y.1||(y.2.id==id||y.2.fre id))=true→(∀ e,u=some e→e.id=id∨e.fre id=true)→ ∀ e,nS f ws u=some e→e.id=id∨e.fre id=true
 | [],u,_,h=>h
 | (i,v)::ws,u,h,hu=>by
   simp only [List.all_cons,Bool.and_eq_true,Bool.or_eq_true,beq_iff_eq]at h
   show ∀ e,nS f ws (cond (f i) (some v) u)=some e→_
   refine bB (ws:=ws) hd h.2 ?_
   intro e he
   cases hf:f i
   ·rw [hf]at he;exact hu e he
   ·rw [hf]at he
    simp only [cond_true,Option.some.injEq]at he
    subst he
    rcases h.1 with q | q
    ·rw [hd i q]at hf;cases hf
    ·exact q
def lg (id:CI):Option C3→Bool
 | some e=>e.id==id||e.fre id
 | none=>true
def RD.free (d:RD) (id:CI) (dead:Nat→Bool):Bool:=
 d.tm.all (fun x=>x.1.all (fun y=>dead y.1|| !y.2.men id)&& !x.2.men id)&&
 (d.so.all (fun x=>x.1.all (fun y=>dead y.1||(y.2.id==id||y.2.fre id))&&lg id x.2)&&d.gh.all (fun v=> !v.men id))
theorem RD.free_spec {d:RD} {id:CI} {dead f:Nat→Bool} (hd: ∀ j,dead j=true→f j=false) (h:d.free id dead=true):
 (∀ v∈(d.st f).tm,v.men id=false)∧(∀ x∈(d.st f).so,x.id=id∨x.fre id=true)∧(∀ v∈(d.st f).gh,v.men id=false):=by
 simp only [RD.free,Bool.and_eq_true,List.all_eq_true]at h
 refine⟨fun v hv=>?_,fun x hx=>?_,fun v hv=>?_⟩
 ·simp only [RD.st,List.mem_map]at hv
  obtain⟨y,h1,rfl⟩:=hv
  have:=h.1 y h1
  simp only [Bool.and_eq_true,Bool.not_eq_true']at this
  exact bA hd (List.all_eq_true.2 this.1) this.2
 ·simp only [RD.st,List.mem_filterMap]at hx
  obtain⟨y,h1,h2⟩:=hx
  have:=h.2.1 y h1
  refine bB hd (List.all_eq_true.2 this.1) (fun e he=>?_) x h2
  have:=this.2
  rw [he]at this
  simpa [lg] using this
 ·have:=h.2.2 v hv
  simpa using this
def lh (P:Program) (I:World→Prop) (ops:Array Oper) (ss:List Stp) (ids:List CI) (d:RD) (dead f:Nat→Bool) (i:Nat):Option (List Prop×St):=
 match ops[i]?,ss[i]? with
 | some o,some s=>match uw P (d.st f) s ops o with
   | some (l,e,v)=>match d.free e.id dead&&e.fre e.id with
     | true=>some (l,bg ids ((qK (d.st f) e).put o.dst v))
     | false=>none
   | none=>match M3 P I false ops o s (d.st f)with
     | some (c,st')=>some (c,bg ids st')
     | none=>none
 | _,_=>none
theorem eY {P:Program} {I:World→Prop} {ops:Array Oper} {ss:List Stp} {ids:List CI} {d:RD} {dead f:Nat→Bool} {i:Nat} {r:List Prop×St} (hd: ∀ j,dead j=true→f j=false) (h:lh P I ops ss ids d dead f i=some r):
 bh P I ops ss ids (d.st f) i=some r:=by
 unfold lh at h
 unfold bh
 split at h
 ·rename_i o s h1 h2
  try simp only [h1,h2]
  split at h
  ·rename_i l e v h3
   split at h
   ·rename_i hb
    simp only [Bool.and_eq_true]at hb
    obtain⟨a,b,c⟩:=RD.free_spec (f:=f) hd hb.1
    rw [lf h3,qL a b c hb.2]
    exact h
   ·cases h
  ·exact h
 ·cases h
def UL:List Nat→Nat→Bool
 | [],_=>false
 | x::l,j=>cond (Nat.beq x j) true (UL l j)
theorem Qb: ∀ {l:List Nat} {j:Nat},UL l j=true↔j∈l
 | [],j=>by simp [UL]
 | x::l,j=>by
   simp only [UL,List.mem_cons]
   cases h:Nat.beq x j
   ·simp only [cond_false,Qb (l:=l)]
    have:x ≠ j:=fun e=>by subst e;simp at h
    exact⟨.inr,fun q=>q.resolve_left (fun e=>this e.symm)⟩
   ·simp only [cond_true,true_iff]
    exact .inl (Nat.eq_of_beq_eq_true h).symm
def pz:List Nat→List Bool→Nat→Option Bool
 | e::es,b::bs,j=>cond (Nat.beq e j) (some b) (pz es bs j)
 | _,_,_=>none
theorem Vn (f:Nat→Bool): ∀ (E:List Nat) (j:Nat),pz E (E.map f) j=if j∈E then some (f j)else none
 | [],j=>rfl
 | e::E,j=>by
   simp only [List.map_cons,pz,Vn f E j,List.mem_cons]
   cases h:Nat.beq e j
   ·have:j ≠ e:=fun q=>by subst q;simp at h
    simp [this]
   ·have:=Nat.eq_of_beq_eq_true h
    subst this
    simp
def tZ (pr:List (List Nat)) (E:List Nat) (mb:List Bool) (i:Nat) (b:Nat→Bool):Nat→Bool:=fun j=>
 cond (Nat.beq j i) false (cond (UL (pr.getD j []) i) false (match pz E mb j with
  | some x=>x
  | none=>cond (UL (pr.getD i []) j) true (b j)))
def nT (f:Nat→Bool) (i:Nat):Nat→Bool:=fun j=>cond (Nat.beq j i) true (f j)
def li (pr:List (List Nat)) (i:Nat):Nat→Bool:=fun j=>cond (Nat.beq j i) true (UL (pr.getD j []) i)
def jq (pr:List (List Nat)) (E:List Nat) (mb:List Bool) (N:Nat):List Nat:=
 (List.range N).filter fun i=>(match pz E mb i with
  | some true=>false
  | _=>true)&&(pr.getD i []).all fun j=>match pz E mb j with
    | some false=>false
    | _=>true
def eZ (ops:Array Oper) (i:Nat):List Nat:=match ops[i]? with
 | some o=>(o.after.toList.filter (Region.binds .any)).map (·.on)
 | none=>[]
def lj (ops:Array Oper) (pr:List (List Nat)):Bool:=
 (List.range ops.size).all fun i=>(eZ ops i).all (fun j=>Nat.blt j i&&UL (pr.getD i []) j)&&(pr.getD i []).all fun j=>UL (eZ ops i) j||(eZ ops i).any fun k=>UL (pr.getD k []) j
def nU (pr:List (List Nat)) (E:List Nat) (ms:List (List Bool)) (N:Nat):Bool:=
 ms.contains (E.map fun _=>false)&&ms.all fun mb=>(jq pr E mb N).all fun i=>ms.contains (E.map fun j=>cond (Nat.beq j i) true ((pz E mb j).getD false))
def sM (P:Program) (I:World→Prop) (ops:Array Oper) (ss:List Stp) (ids:List CI) (d:RD) (pr:List (List Nat)) (E:List Nat) (ms:List (List Bool)) (b:Nat→Bool):List (Option (List Prop×St)):=
 ms.flatMap fun mb=>(jq pr E mb ops.size).map fun i=>lh P I ops ss ids d (li pr i) (tZ pr E mb i b) i
def pA (ops:Array Oper) (cs:List (List Prop)) (d:RD) (pr:List (List Nat)) (E:List Nat) (ms:List (List Bool)) (b:Nat→Bool):List (Option (List Prop×St)):=
 ms.flatMap fun mb=>(jq pr E mb ops.size).map fun i=>some (cs.getD i [],d.st (nT (tZ pr E mb i b) i))
def bv (v:List Bool):Nat→Bool:=fun j=>v.getD j false
theorem bD {α β:Type} {f g:α→Nat→β} {r:α→List Nat}: ∀ {l:List α},(l.flatMap fun n=>(r n).map (f n))=(l.flatMap fun n=>(r n).map (g n))→ ∀ n∈l, ∀ i∈r n,f n i=g n i
 | [],_,n,hn,_,_=>by simp at hn
 | a::l,h,n,hn,i,hi=>by
   simp only [List.flatMap_cons]at h
   have hh:=List.append_inj h (by simp)
   rcases List.mem_cons.1 hn with rfl | hn
   ·exact List.map_inj_left.1 hh.1 i hi
   ·exact bD hh.2 n hn i hi
section
variable {P:Program} {F:Fr} {ops:Array Oper}
theorem Yq {v:List Bool} {i:Nat} (hv:v.length=ops.size) (h:i∈Region.ready .any ops v.toArray):i<ops.size∧bv v i=false∧ ∀ j∈eZ ops i,bv v j=true:=by
 unfold Region.ready at h
 simp only [List.mem_filter,List.mem_range,Bool.and_eq_true,Bool.not_eq_true']at h
 obtain⟨h1,h2,h3⟩:=h
 refine⟨h1,?_,fun j hj=>?_⟩
 ·have:i<v.length:=by omega
  simp [Array.getD_eq_getD_getElem?,this]at h2
  simp [bv,List.getD_eq_getElem?_getD,this,h2]
 ·unfold eZ at hj
  have ho:ops[i]? =some ops[i]:=Array.getElem?_eq_getElem h1
  rw [ho]at hj h3
  simp only [List.mem_map,List.mem_filter]at hj
  obtain⟨e,⟨he,hb⟩,rfl⟩:=hj
  simp only [Option.map_some,Option.getD_some,Array.all_eq_true_iff_forall_mem]at h3
  have:=h3 e (by simpa using he)
  simp only [hb,Bool.not_true,Bool.false_or]at this
  simp only [bv,List.getD_eq_getElem?_getD]
  simpa [Array.getD_eq_getD_getElem?] using this
theorem lk {v:List Bool} {pr:List (List Nat)} (hv:v.length=ops.size) (hp:lj ops pr=true) (h:Region.ready .any ops v.toArray=[]): ∀ i,i<ops.size→bv v i=true:=by
 intro i
 induction i using Nat.strongRecOn with
 | ind i ih=>
   intro hi
   cases hb:bv v i
   ·exfalso
    have:i∈Region.ready .any ops v.toArray:=by
     unfold Region.ready
     simp only [List.mem_filter,List.mem_range,Bool.and_eq_true,Bool.not_eq_true']
     refine⟨hi,?_,?_⟩
     ·have:i<v.length:=by omega
      simp only [bv,List.getD_eq_getElem?_getD,List.getElem?_eq_getElem this,Option.getD_some]at hb
      simp [Array.getD_eq_getD_getElem?,this,hb]
     ·have ho:ops[i]? =some ops[i]:=Array.getElem?_eq_getElem hi
      rw [ho]
      simp only [Option.map_some,Option.getD_some,Array.all_eq_true_iff_forall_mem]
      intro e he
      cases hbd:Region.binds .any e
      ·rfl
      ·have hd:e.on∈eZ ops i:=by
        unfold eZ;rw [ho]
        simp only [List.mem_map,List.mem_filter]
        exact⟨e,⟨by simpa using he,hbd⟩,rfl⟩
       simp only [lj,List.all_eq_true,List.mem_range,Bool.and_eq_true]at hp
       have hlt:=((hp i hi).1 _ hd).1
       simp only [Nat.blt_eq]at hlt
       have:=ih _ hlt (by omega)
       simp only [bv,List.getD_eq_getElem?_getD]at this
       simp only [Bool.not_true,Bool.false_or]
       simpa [Array.getD_eq_getD_getElem?] using this
    rw [h]at this;cases this
   ·rfl
theorem ux {pr:List (List Nat)} {E:List Nat} {ms:List (List Bool)} {ss:List Stp} {ids:List CI} {cs:List (List Prop)} {d:RD} {Q:Exit→St→Prop} (hids:ids.Nodup) (hp:lj ops pr=true) (hm:nU pr E ms ops.size=true)
 (hst: ∀ b,sM P F.I ops ss ids d pr E ms b=pA ops cs d pr E ms b) (hc:Sv cs) (hQ:Q .normal (d.st fun j=>Nat.blt j ops.size)):
 ∀ (fuel:Nat) (v:List Bool) (a:Act) (w:World) (G:B4),v.length=ops.size→E.map (bv v)∈ms→(∀ i,bv v i=true→ ∀ j∈pr.getD i [],bv v j=true)→lb v≤fuel→R F (d.st (bv v)) a w G→
   wpAny P .any ops (fun e a' w'=> ∃ st' G',Q e st'∧R F st' a' w' G') fuel v.toArray a w:=by
 have fin: ∀ (v:List Bool) a w G,v.length=ops.size→Region.ready .any ops v.toArray=[]→R F (d.st (bv v)) a w G→ ∃ st' G',Q .normal st'∧R F st' a w G':=by
  intro v a w G hv hr hR
  have e:bv v=fun j=>Nat.blt j ops.size:=by
   funext j
   by_cases hj:j<ops.size
   ·rw [lk hv hp hr j hj];exact(by simpa using hj:Nat.blt j ops.size=true).symm
   ·have h1:bv v j=false:=by simp [bv,List.getD_eq_getElem?_getD,List.getElem?_eq_none (show v.length≤j by omega)]
    rw [h1]
    cases hb:Nat.blt j ops.size
    ·rfl
    ·simp at hb;omega
  rw [e]at hR
  exact⟨_,G,hQ,hR⟩
 intro fuel
 induction fuel with
 | zero=>
   intro v a w G hv hE hcl hu hR
   have hz:=bi _ (Nat.le_zero.1 hu)
   have hr:Region.ready .any ops v.toArray=[]:=by
    rcases hrr:Region.ready .any ops v.toArray with _ | ⟨i,r⟩
    ·rfl
    ·have:=Yq hv (i:=i) (by rw [hrr];simp)
     rw [List.all_eq_true]at hz
     have hlt:i<v.length:=by omega
     have h2:=hz v[i] (List.getElem_mem hlt)
     have h3:=this.2.1
     simp only [bv,List.getD_eq_getElem?_getD,List.getElem?_eq_getElem hlt,Option.getD_some]at h3
     rw [h3]at h2;cases h2
   exact⟨hr,fin v a w G hv hr hR⟩
 | succ fuel ih=>
   intro v a w G hv hE hcl hu hR
   refine⟨fun hr=>fin v a w G hv hr hR,fun i hi=>?_⟩
   obtain⟨hlt,hf,hdir⟩:=Yq hv hi
   have hp':=hp
   simp only [lj,List.all_eq_true,List.mem_range,Bool.and_eq_true,Bool.or_eq_true,List.any_eq_true,Qb]at hp'
   have hpre: ∀ j∈pr.getD i [],bv v j=true:=by
    intro j hj
    rcases (hp' i hlt).2 j hj with q | ⟨k,hk,q⟩
    ·exact hdir j q
    ·exact hcl k (hdir k hk) j q
   have hsuc: ∀ j,i∈pr.getD j []→bv v j=false:=by
    intro j hj
    cases hb:bv v j
    ·rfl
    ·have:=hcl j hb i hj
     rw [hf]at this;cases this
   have hg:tZ pr E (E.map (bv v)) i (bv v)=bv v:=by
    funext j
    unfold tZ
    cases h1:Nat.beq j i
    ·simp only [cond_false]
     cases h2:UL (pr.getD j []) i
     ·simp only [cond_false,Vn]
      split
      ·rename_i x hx
       split at hx
       ·simpa using hx.symm
       ·cases hx
      ·cases h3:UL (pr.getD i []) j
       ·rfl
       ·exact(hpre j (Qb.1 h3)).symm
     ·exact(hsuc j (Qb.1 h2)).symm
    ·rw [Nat.eq_of_beq_eq_true h1];exact hf.symm
   have hri:i∈jq pr E (E.map (bv v)) ops.size:=by
    simp only [jq,List.mem_filter,List.mem_range,Bool.and_eq_true,List.all_eq_true,Vn]
    refine⟨hlt,?_,fun j hj=>?_⟩
    ·split
     ·rename_i hq
      split at hq
      ·simp only [Option.some.injEq]at hq;rw [hf]at hq;cases hq
      ·cases hq
     ·rfl
    ·split
     ·rename_i hq
      split at hq
      ·simp only [Option.some.injEq]at hq;rw [hpre j hj]at hq;cases hq
      ·cases hq
     ·rfl
   have hstep:=bD (r:=fun mb=>jq pr E mb ops.size) (hst (bv v)) _ hE i hri
   rw [hg]at hstep
   have hdead: ∀ j,li pr i j=true→bv v j=false:=by
    intro j hj
    unfold li at hj
    cases h1:Nat.beq j i
    ·rw [h1]at hj;exact hsuc j (Qb.1 hj)
    ·rw [Nat.eq_of_beq_eq_true h1];exact hf
   have hstep:=eY hdead hstep
   have hset:nT (bv v) i=bv (v.set i true):=by
    funext j
    unfold nT
    cases h1:Nat.beq j i
    ·have:i ≠ j:=fun e=>by subst e;simp at h1
     simp [bv,List.getD_eq_getElem?_getD,List.getElem?_set,this]
    ·have:=Nat.eq_of_beq_eq_true h1
     subst this
     simp [bv,List.getD_eq_getElem?_getD,show j<v.length by omega]
   unfold bh at hstep
   split at hstep
   ·rename_i o s ho hs
    split at hstep
    ·rename_i c st' hss
     simp only [Option.some.injEq,Prod.mk.injEq]at hstep
     obtain⟨hcc,hst'⟩:=hstep
     rw [hset]at hst'
     have hwp:=Ss (K:=fun s'=>D4 s' (d.st (bv (v.set i true)))) hss (hcc▸Tu hc i) (hst'▸Tt ids hids st')
     have hw:=Yl (Q:=fun e a' w'=> ∃ st' G',Q e st'∧R F st' a' w' G') hR hwp
     have hnext: ∀ a' w',kp F (fun s'=>D4 s' (d.st (bv (v.set i true)))) a' w'→wpAny P .any ops (fun e a' w'=> ∃ st' G',Q e st'∧R F st' a' w' G') fuel (v.toArray.setIfInBounds i true) a' w':=by
      intro a' w' ⟨s',G',hl,hR'⟩
      have hsa:v.toArray.setIfInBounds i true=(v.set i true).toArray :=by simp
      rw [hsa]
      refine ih (v.set i true) a' w' G' (by simpa using hv) ?_ ?_ ?_ (hR'.less hl)
      ·simp only [nU,Bool.and_eq_true,List.all_eq_true,List.contains_iff_mem]at hm
       have:=hm.2 _ hE i hri
       have e:(E.map fun j=>cond (Nat.beq j i) true ((pz E (E.map (bv v)) j).getD false))=E.map (bv (v.set i true)):=by
        refine List.map_congr_left (fun j hj=>?_)
        rw [←hset,Vn,if_pos hj]
        rfl
       rwa [e]at this
      ·intro k hk j hj
       rw [←hset]at hk ⊢
       unfold nT at hk ⊢
       cases h1:Nat.beq j i
       ·simp only [cond_false]
        cases h2:Nat.beq k i
        ·rw [h2]at hk;exact hcl k hk j hj
        ·rw [Nat.eq_of_beq_eq_true h2]at hj;exact hpre j hj
       ·rfl
      ·have hb:v[i]? =some false:=by
        have hl:i<v.length:=by omega
        simp only [bv,List.getD_eq_getElem?_getD,List.getElem?_eq_getElem hl,Option.getD_some]at hf
        rw [List.getElem?_eq_getElem hl,hf]
       have:=Zf _ i hb
       omega
     unfold wpOp
     rw [ho]
     simp only
     by_cases hwt:Region.wanted o (yielded ops a.tmps)=true
     ·rw [if_pos hwt]at hw ⊢
      exact .inl (Oper.wp_mono hnext hw)
     ·rw [if_neg hwt]at hw ⊢
      exact hnext _ _ hw
    ·cases hstep
   ·cases hstep
theorem Ak.regS {st:St} {rid:Nat} {l:List Oper} {Q:Exit→St→Prop} (h1:P.follows .mixedOrders =true) (pr:List (List Nat)) (E:List Nat) (ms:List (List Bool)) (ss:List Stp) (ids:List CI) (d:RD) (cs:List (List Prop)) (hc:Sv cs) (hQ:Q .normal (d.st fun j=>Nat.blt j l.toArray.size))
 (hids:RP ids=true:=by kernel_rfl) (hp:lj l.toArray pr=true:=by kernel_rfl) (hm:nU pr E ms l.toArray.size=true:=by kernel_rfl) (h0:P9 st (d.st fun _=>false)=some (d.st fun _=>false):=by kernel_rfl)
 (hst: ∀ b,sM P F.I l.toArray ss ids d pr E ms b=pA l.toArray cs d pr E ms b:=by intro b;kernel_rfl):Ak P F (.region rid l.toArray true) st Q:=by
 intro a w G hR
 refine wp_region_any h1 ?_
 have hR':=(hR.less (D4.t h0)).same (w':={w with drawn:=w.drawn+1}) ⟨rfl,rfl,rfl⟩ ⟨Nat.le_refl _,fun _ _=>rfl⟩
 have e0:bv (List.replicate l.toArray.size false)=fun _=>false:=by
  funext j
  simp only [bv,List.getD_eq_getElem?_getD,List.getElem?_replicate]
  split<;>rfl
 have key:=ux (P:=P) (ops:=l.toArray) (Q:=Q) (Qa hids) hp hm hst hc hQ l.toArray.size (List.replicate l.toArray.size false) a _ G (by simp) (by
  simp only [nU,Bool.and_eq_true,List.contains_iff_mem]at hm
  rw [e0];exact hm.1) (fun i hi=>by rw [e0]at hi;cases hi) (by simp [lb]) (by rw [e0];exact hR')
 simpa using key
end
def sd:Nat→Nat→List (Nat×List (Nat×V)×V)→List (List (Nat×V)×V)
 | 0,_,_=>[]
 | n+1,i,[]=>([], .undef)::sd n (i+1) []
 | n+1,i,(j,ws,v)::l=>match Nat.beq i j with
   | true=>(ws,v)::sd n (i+1) l
   | false=>([], .undef)::sd n (i+1) ((j,ws,v)::l)
theorem bC {l:List Prop} {ls:List (List Prop)} (h:BE l) (k:Sv ls):Sv (l::ls):=⟨h,k⟩
theorem bN:Sv []:=trivial
end Go.PL
namespace Go.PL
open Go Go.RowKit
def Wk (st st':St):Prop:= ∀ (F:Fr) (a:Act) (w:World) (G:B4),R F st a w G→ ∃ G',R F st' a w G'
theorem Wk.less {st st':St} (h:D4 st st'):Wk st st':=fun _ _ _ G hR=>⟨G,hR.less h⟩
theorem Wk.trans {a b c:St} (h:Wk a b) (k:Wk b c):Wk a c:=fun F x w G hR=>by
 obtain⟨G',q⟩:=h F x w G hR
 exact k F x w G' q
theorem Wk.frz (st:St) (id:CI):Wk st (st.freeze id):=fun _ _ _ _ hR=>by
 obtain⟨G',q,_⟩:=hR.freeze id
 exact⟨G',q⟩
theorem Wk.frzs: ∀ (ids:List CI) (st:St),Wk st (ids.foldl St.freeze st)
 | [],st=>Wk.less (D4.refl st)
 | i::l,st=>(Wk.frz st i).trans (Wk.frzs l _)
theorem wT {st st':St} (h:P9 st st'=some st':=by kernel_rfl):Wk st st':=Wk.less (D4.t h)
theorem wU {st st':St} (hn:RP st'.ids=true:=by kernel_rfl) (h:P9 (bg st'.ids st) st'=some st':=by kernel_rfl):Wk st st':=Wk.less (lU hn h)
theorem wF {st st':St} (ids:List CI) (hn:RP st'.ids=true:=by kernel_rfl) (h:P9 (bg st'.ids (ids.foldl St.freeze st)) st'=some st':=by kernel_rfl):Wk st st':=(Wk.frzs ids st).trans (Wk.less (lU hn h))
section
variable {P:Program} {F:Fr} {st:St}
theorem Ak.wk {c:Code} {st':St} {Q:Exit→St→Prop} (h:Wk st st') (hh:Ak P F c st' Q):Ak P F c st Q:=fun a w G hR=>by
 obtain⟨G',q⟩:=h F a w G hR
 exact hh a w G' q
theorem Ak.loopW {X:Type} (S:X→St) (inv:X→Prop) (μ:X→Nat) {c:Code} {Q:Exit→St→Prop} (x0:X) (h0:inv x0) (hl:Wk st (S x0))
 (hb: ∀ x,inv x→Ak P F c (S x) (Ca (fun st'=> ∃ y,inv y∧μ y<μ x∧Wk st' (S y)) Q)):Ak P F (.loop c) st Q:=by
 refine Ak.loop (X:=X×St) (fun p=>p.2) (fun p=>inv p.1∧Wk p.2 (S p.1)) (fun p=>μ p.1) (x0,st) ⟨h0,hl⟩ (D4.refl _) (fun p hp=>?_)
 refine(Ak.wk hp.2 (hb p.1 hp.1)).mono fun e st' q=>?_
 cases e<;>simp only [Ca]at q ⊢ <;>try exact q
 obtain⟨y,h1,h2,h3⟩:=q
 exact⟨(y,st'),⟨h1,h3⟩,h2,D4.refl _⟩
theorem It {σ ρ:Type} {B:σ→Option (σ⊕ρ)} (S:σ→St) {N:Nat} {s0:σ} {o:ρ} {c:Code} {Q:Exit→St→Prop} (hi:PL.iter B N s0=some o) (hl:Wk st (S s0))
 (hb: ∀ s z,B s=some z→(∀ o',z= .inr o'→o'=o)→Ak P F c (S s) (Ca (fun st'=> ∃ s',z= .inl s'∧Wk st' (S s')) Q)):Ak P F (.loop c) st Q:=by
 refine Ak.loopW (X:=Nat×σ) (fun x=>S x.2) (fun x=>PL.iter B x.1 x.2=some o) (fun x=>x.1) (N,s0) hi hl ?_
 intro ⟨n,s⟩ hx
 cases n with
 | zero=>simp [PL.iter]at hx
 | succ n=>
   simp only [PL.iter]at hx
   cases hB:B s with
   | none=>rw [hB]at hx;simp at hx
   | some z=>
     rw [hB]at hx
     cases z with
     | inl s'=>
       refine(hb s _ hB (fun o' e=>by cases e)).mono fun e st' q=>?_
       cases e<;>simp only [Ca]at q ⊢ <;>try exact q
       obtain⟨s'',e,hl'⟩:=q
       injection e with e;subst e
       exact⟨(n,s'),hx,Nat.lt_succ_self _,hl'⟩
     | inr r=>
       simp only [Option.some.injEq]at hx
       refine(hb s _ hB (fun o' e=>by injection e with e;rw [←e];exact hx)).mono fun e st' q=>?_
       cases e<;>simp only [Ca]at q ⊢ <;>try exact q
       obtain⟨s'',e,_⟩:=q
       cases e
theorem Sj {X:Type} (S:X→St) (Φ:X→Prop) {x y:Code} {Q:Exit→St→Prop} (hx:Ak P F x st (Ca (fun st'=> ∃ v,Φ v∧Wk st' (S v)) Q)) (hy: ∀ v,Φ v→Ak P F y (S v) Q):Ak P F (.seq x y) st Q:=
 Ak.seq (hx.mono fun e st' q=>by
  cases e<;>simp only [Ca]at q ⊢ <;>try exact q
  obtain⟨v,h1,h2⟩:=q
  exact Ak.wk h2 (hy v h1))
end
theorem jr {α:Type} (e:α→List C) (x:α) {z:List C} (hz:z=e x) (hp:0<z.length): ∀ k,Fa z k=(List.replicate k x).flatMap e:=by
 intro k
 subst hz
 apply List.ext_getElem?
 intro i
 have hlen:((List.replicate k x).flatMap e).length =k*(e x).length :=by
  induction k with
  | zero=>simp
  | succ k ih=>rw [List.replicate_succ,List.flatMap_cons,List.length_append,ih,Nat.succ_mul,Nat.add_comm]
 by_cases hi:i<k*(e x).length
 ·have hm:i % (e x).length <(e x).length :=Nat.mod_lt _ hp
  have key: ∀ k i,i<k*(e x).length →((List.replicate k x).flatMap e)[i]? =(e x)[i % (e x).length]? :=by
   intro k
   induction k with
   | zero=>intro i h;simp at h
   | succ k ih=>
     intro i h
     rw [List.replicate_succ,List.flatMap_cons]
     by_cases hlt:i<(e x).length
     ·rw [List.getElem?_append_left hlt,Nat.mod_eq_of_lt hlt]
     ·rw [List.getElem?_append_right (by omega),ih _ (by rw [Nat.succ_mul]at h;omega), ←Nat.mod_eq_sub_mod (by omega)]
  rw [key k i hi]
  simp only [Fa,List.getElem?_map,List.getElem?_range hi,Option.map_some]
  rw [List.getD_eq_getElem?_getD,List.getElem?_eq_getElem hm]
  rfl
 ·rw [List.getElem?_eq_none (by simp only [Fa,List.length_map,List.length_range];omega),List.getElem?_eq_none (by rw [hlen];omega)]
theorem vd {α:Type} {x:α} {lx:List α} {n:Nat} (h:some (List.replicate n x)=some lx) (e:α→List C) (hp:Nat.blt 0 (e x).length =true:=by kernel_rfl):n=lx.length∧Fa (e x) n=lx.flatMap e:=by
 have:=Option.some.inj h
 subst this
 exact⟨by simp,jr e x rfl (by simpa using hp) n⟩
end Go.PL
namespace Go.PL
open Go Go.RowKit
def F0 (s:List UInt8):List Int:=s.map fun b=>(b.toNat:Int)
def ll (P:Program) (dst:TypeId):Option TypeId:=match P.underlying dst with
 | some (.slice e)=>match P.underlying e with
   | some (.int .u8)=>some e
   | _=>none
 | _=>none
theorem fa {P:Program} {dst e:TypeId} (h:ll P dst=some e):P.underlying dst=some (.slice e)∧P.underlying e=some (.int .u8):=by
 unfold ll at h
 split at h
 ·rename_i e' h1
  split at h
  ·rename_i h2
   injection h with h;subst h
   exact⟨h1,h2⟩
  ·cases h
 ·cases h
theorem SB {w:World} {G:B4} {e:TypeId} (s:List UInt8): ∀ (l:List UInt8) (k:Nat),s.drop k=l→A9 (Lib.bytesWorld w e ⟨s.toArray⟩) G ((F0 l).flatMap (eI .u8)) w.heap.size k
 | [],_,_=>by simp [F0,A9]
 | b::l,k,h=>by
   have hk:k<s.length:=by
    rcases Nat.lt_or_ge k s.length with q | q
    ·exact q
    ·rw [List.drop_eq_nil_of_le q]at h;cases h
   have hb:s.getD k 0=b:=by
    have:=congrArg (fun l=>l.head?) h
    simp only [List.head?_drop,List.head?_cons]at this
    rw [List.getD_eq_getElem?_getD,this];rfl
   have hd:s.drop (k+1)=l:=by
    have:=congrArg List.tail h
    simpa using this
   simp only [F0,List.map_cons,List.flatMap_cons,eI,List.cons_append,List.nil_append,A9,Ax]
   refine⟨⟨_,Lib.bytesWorld_cell w e ⟨s.toArray⟩ k (by simpa [ByteArray.size] using hk),?_⟩,SB s l (k+1) hd⟩
   simp only [List.getD_eq_getElem?_getD]at hb
   simp [List.getD_eq_getElem?_getD,hb]
theorem E0.bytes {P:Program} {I:World→Prop} {o:Oper} {st:St} {K:St→Prop} {x:Operand} {src dst:TypeId} (e:TypeId) (s:List UInt8)
 (ho:o.op= .convert src dst x) (hlen:s.length≤140737488355328) (hK:K (st.put o.dst (vL (eI .u8) (F0 s)))) (ha:st.ev x= .c (.str s):=by kernel_rfl)
 (hs:LA P src=true:=by kernel_rfl) (hd:ll P dst=some e:=by kernel_rfl):E0 P I o st K:=by
 intro F a w G Q hI hR
 obtain⟨h1,h2⟩:=fa hd
 have hx:=hR.ev x
 rw [ha]at hx
 simp only [Ap,Ax]at hx
 obtain⟨u,hu⟩: ∃ u,P.underlying src=some u:=by
  unfold LA at hs
  cases hq:P.underlying src with
  | none=>rw [hq]at hs;simp at hs
  | some u=>exact⟨u,rfl⟩
 have hrun:(execOp a.eval o).run P w= .ok (.value (.slice (some ⟨w.heap.size,0,none⟩) s.length (grownCap w s.length 0 e))) (Lib.bytesWorld w e ⟨s.toArray⟩):=by
  have:=Lib.run_convert_string_bytes (P:=P) w src dst e ⟨s.toArray⟩ hu h1 h2
  simp [execOp,ho,hx,this,ByteArray.size]
 refine D5 hrun ⟨_,G,hK,?_⟩
 have hb:=Lib.bytesWorld_below w e ⟨s.toArray⟩
 refine(hR.same (Fn hb) (HN hb)).put ?_
 have hl:(F0 s).length =s.length:=by simp [F0]
 simp only [Ap,Ax,hl]
 refine⟨EF _ (fun x=>by simp [eI,Bw,C.pure]) _,_,_,rfl,grownCap_ge _ _ _ _,grownCap_le_maxLen _ _ _ _ (by simp only [maxLen];omega),fun h0=>?_, .inr ⟨w.heap.size,0,rfl,fun hw=>absurd (hR.avlt' hw) (by omega),?_,SB s s 0 rfl⟩⟩
 ·have:s=[]:=List.length_eq_zero_iff.1 h0
  subst this;rfl
 ·rw [Lib.bytesWorld_size];omega
end Go.PL
namespace Go.PL
open Go Go.RowKit
theorem E0.nilq {P:Program} {I:World→Prop} {o:Oper} {st:St} {K:St→Prop} {t ty:TypeId} {x:Operand} {len:Nat} {cs:List C}
 (ho:o.op= .binOp .eql t x (.const (.slice none 0 0)) ty) (hK: ∀ b,(b=true→len=0)→K (st.put o.dst (vB b)))
 (hx:st.ev x= .c (.sl len cs):=by kernel_rfl) (ht:Mk P t=true:=by kernel_rfl):E0 P I o st K:=by
 intro F a w G Q hI hR
 obtain⟨e,hu⟩:=Ml ht
 have hv:=hR.ev x
 rw [hx]at hv
 simp only [Ap,Ax]at hv
 obtain⟨_,p,cap,he,_,_,_,hz⟩:=hv
 have hrun:(execOp a.eval o).run P w= .ok (.value (.bool p.isNone)) w:=by
  have hq:=run_equal_slice_nil (P:=P) w t e p len cap hu
  have hc:a.eval (.const (.slice none 0 0))= .slice none 0 0:=rfl
  simp [execOp,ho,he,hc,eqGuard,binOp,hq]
 refine D5 hrun ⟨_,G,hK p.isNone (fun hp=>?_),hR.put (by simp only [Ap,Ax])⟩
 rcases hz with q | ⟨b,off,q,_⟩
 ·exact q
 ·rw [q]at hp;cases hp
theorem E0.map {P:Program} {I:World→Prop} {o:Oper} {st:St} {K:St→Prop} {t:TypeId} (ho:o.op= .makeMap t none) (hK:K (st.put o.dst (.c .any))):E0 P I o st K:=by
 intro F a w G Q hI hR
 have hrun:(execOp a.eval o).run P w= .ok (.value (.map (some w.heap.size))) (w.alloc (.map #[] 0)):=by
  simp [execOp,ho,Instr.makeMap,newObj]
  rfl
 refine D5 hrun ⟨_,G,hK,?_⟩
 have hb:Below w.heap.size w (w.alloc (.map #[] 0)):=(Below.refl _ _).alloc (Nat.le_refl _) _
 exact(hR.same (Fn hb) (HN hb)).put (by simp only [Ap,Ax];rfl)
end Go.PL
namespace Go.PL
open Go Go.RowKit
structure F1 (P:Program) (I:World→Prop) (f:FuncId) (args:List V) (E n:Nat) (Q:Nat→List C→Prop):Prop where
 ent:ent P f=true
 run: ∀ (w:World) (vs:Array Value) (av:Nat→Prop),I w→(∀ b,av b→b<w.heap.size)→Bf w (im av) args vs.toList→
  Calls P f vs w (fun e w'=> ∃ v len cs us,e= .returned v∧Q len cs∧Bw cs=true∧cs.length=len*n∧
   ((∃ p,v= .slice p 0 0∧len=0)∨AH w' (im fun b=>av b∨v.ownBlock=some b) cs us∧w'.ownsRow w.heap.size E n v len us)∧Below w.heap.size w w')
theorem R.adopt {F:Fr} {st:St} {a:Act} {w w':World} {G:B4} (h:R F st a w G) (hb:Below w.heap.size w w') (id:CI) {E n len:Nat} {cs:List C} {v:Value} {us:List Value} (hp:Bw cs=true) (hl:cs.length=len*n)
 (hv:(∃ p,v= .slice p 0 0∧len=0)∨AH w' (im fun b=>G.wr b∨v.ownBlock=some b) cs us∧w'.ownsRow w.heap.size E n v len us):
 ∃ G',R F (st.new ⟨id,some (E,n,len),cs,true⟩) a w' G'∧G'.own id=some v∧v.oneCell'=true:=by
 have hblk: ∀ b,b<w.heap.size→G.blk id ≠ some b→w'.heap[b]? =w.heap[b]? :=fun b hb' _=>hb.block b hb'
 have hext: ∀ b,b<F.w0.heap.size→ ¬F.old b→w'.heap[b]? =w.heap[b]? :=fun b hb' _=>hb.block b (Nat.lt_of_lt_of_le hb' h.hsize)
 rcases hv with ⟨p,rfl,rfl⟩ | ⟨hr,hown⟩
 ·refine⟨HK F G id none (some (.slice p 0 0)),?_,by simp [HK],rfl⟩
  refine h.set ⟨id,some (E,n,0),cs,true⟩ none _ (Fn hb) hb.size hblk hext (fun b hb'=>by cases hb') (fun _=>hp) ?_
  exact PZ (C3.kill_row _ _) ⟨by rw [Oz];exact hl,_,by simp only [HK,C3.kill_id,if_true], .inl ⟨p,rfl,rfl,by simp [HK,C3.kill_id]⟩⟩
 ·have hone:v.oneCell'=true:=by
   rcases hown.2 with ⟨q,_⟩ | ⟨g,cap,cur,q,_⟩<;>rw [q]<;>rfl
  have hfr: ∀ b,v.ownBlock=some b→w.heap.size≤b∧b<w'.heap.size:=fun b hb'=>hown.lt b hb'
  refine⟨HK F G id v.ownBlock (some v),?_,by simp [HK],hone⟩
  refine h.set ⟨id,some (E,n,len),cs,true⟩ v.ownBlock (some v) (Fn hb) hb.size hblk hext (fun b hb'=>⟨.inl (hfr b hb').1,(hfr b hb').2⟩) (fun _=>hp) ?_
  have hr2:AH w' (HK F G id v.ownBlock (some v)) cs us:=AH.mono (G:=im fun b=>G.wr b∨v.ownBlock=some b) ⟨Nat.le_refl _,fun _ _ _=>rfl,fun b _ hw=>by
   simp only [HK]at hw
   show G.wr b∨v.ownBlock=some b
   rcases hw with q | ⟨i,q⟩
   ·exact .inl ((h.wr b).2 (.inl q))
   ·split at q
    ·exact .inr q
    ·exact .inl ((h.wr b).2 (.inr ⟨i,q⟩)),fun _ _ _ _=>HB.same rfl⟩ _ _ (fun i hi=>absurd (show JE i cs=true from hi) (by rw [DE i cs hp];simp)) hr
  refine PZ (C3.kill_row _ _) ⟨by rw [Oz];exact hl,v,by simp [HK,C3.kill_id],?_⟩
  rcases hown.2 with ⟨q,h0⟩ | ⟨g,cap,cur,q,_,q2,q3,q4,q5,q6⟩
  ·exact .inl ⟨none,q,h0,by simp [HK,q,Value.ownBlock,C3.kill_id]⟩
  ·refine .inr ⟨g,cap,cur,q,by simp [HK,q,Value.ownBlock,C3.kill_id],q2,q3,q4,q5,?_⟩
   exact A9.of_list (vs:=us) hr2 (Lk q2 (rest:=cur.toList.drop (len*n)) (by rw [←q6,List.take_append_drop]))
theorem E0.callO {P:Program} {I:World→Prop} {o:Oper} {st:St} {K:St→Prop} {f:FuncId} {xs:List Operand} {E n:Nat} {Q:Nat→List C→Prop} (d:Nat)
 (hk:DH o.op= .call f xs) (hd:o.dst=some d) (ha:BE (GF st true xs).1) (hp:(FM ((GF st true xs).2.map (Dr st))&&(FY (GF st true xs).2).isEmpty)=true)
 (hc:F1 P I f ((GF st true xs).2.map (Dr st)) E n Q)
 (hK: ∀ len cs,Q len cs→K ((st.new ⟨d::st.pre,some (E,n,len),cs,true⟩).put (some d) (.c (.osl (d::st.pre))))):E0 P I o st K:=by
 intro F a w G Q0 hI hR
 obtain⟨h1,h2⟩:=LF ha
 simp only [Bool.and_eq_true,List.isEmpty_iff]at hp
 have hI':I w:=hI▸hR.inv w hR.hsize hR.ext
 have hr:=So (a:=a) hk hc.ent w
 unfold Oper.wp Oper.upon
 rw [hr]
 have hx:Bf w G (GF st true xs).2 (xs.map a.eval):=by rw [←h2];exact hR.args rfl h1
 have h3:=KV hR (av:=fun b=>G.wr b) (fun _ _ q=>q) (by rw [hp.2];simp) hp.1 hx
 refine(hc.run w (xs.map a.eval).toArray (fun b=>G.wr b) hI' (fun b hb=>hR.avlt' hb) (by simpa using h3)).mono fun e w' ⟨v,len,cs,us,he,hq,hpc,hl,hv,hb⟩=>?_
 subst he
 obtain⟨G',g1,g2,g3⟩:=hR.adopt hb (d::st.pre) (E:=E) (n:=n) hpc hl hv
 refine⟨_,G',hK len cs hq,?_⟩
 rw [hd]
 exact R.put (d:=some d) g1 (show Ap w' G' (V.c (C.osl (d::st.pre))) v by simp only [Ap,Ax];exact⟨g2,g3⟩)
def uy (st:St) (t:Nat) (E n:Nat) (Q:Nat→List C→Prop):Prop:=
 (∃ id e len,st.get t= .c (.osl id)∧st.look id=some e∧e.row=some (E,n,len)∧Bw e.cs=true∧Q len e.cs)∨(st.get t= .c .nils ∧Q 0 [])
theorem F1.of {P:Program} {I:World→Prop} (hst:Tl I) {f:FuncId} {fn:Func} {c:Code} {args:List V} {E n t m:Nat} {Q:Nat→List C→Prop} (hent:PL.ent P f=true) (hf:P.funcs[f]? =some fn) (hb:fn.body=some c)
 (hr:fn.results= #[.tmp t]) (hn:fn.ntmps=m)
 (h: ∀ w0 av old gv,Ak P ⟨w0,av,old,I,gv⟩ c (St.start args m) (fun e st'=>(e= .normal ∨e= .ret)∧uy st' t E n Q)):F1 P I f args E n Q:=by
 refine⟨hent,fun w vs av hI hav hargs=>calls_of_wp hf hb ?_⟩
 subst hn
 have hR:=R.start hst hI hav hargs fn.ntmps
 refine Code.wp_mono (fun e a' w' ⟨st',G',⟨he,q⟩,hR'⟩=>?_) (h _ _ _ _ _ _ _ hR)
 have fin:a'.defers=[]∧ ∃ v,(results fn a'.tmps).run P w'= .ok v w'∧(fun(e:Ending) w''=> ∃ v len cs us,e= .returned v∧Q len cs∧Bw cs=true∧cs.length=len*n∧
  ((∃ p,v= .slice p 0 0∧len=0)∨AH w'' (im fun b=>av b∨v.ownBlock=some b) cs us∧w''.ownsRow w.heap.size E n v len us)∧Below w.heap.size w w'') (.returned v) w':=by
  have hres:(results fn a'.tmps).run P w'= .ok (a'.tmps.getD t Go.undef) w':=by
   have:=JU (P:=P) (w:=w') (fn:=fn) (tmps:=a'.tmps) (vs:=[a'.tmps.getD t Go.undef]) (by rw [hr];simp [M2])
   simpa using this
  refine⟨hR'.dfr,_,hres,?_⟩
  have hbel:=hR'.below (fun _ hx=>hx)
  have hsl:=hR'.slots t
  rcases q with ⟨id,e,len,q1,q2,q3,q4,q5⟩ | ⟨q1,q2⟩
  ·have hsl':Ap w' G' (st'.get t) (a'.tmps.getD t Go.undef):=hsl
   rw [q1]at hsl'
   simp only [Ap,Ax]at hsl'
   obtain⟨hm,hid⟩:=DL q2
   obtain⟨v,us,k1,k2,k3,k4⟩:=NK q3 (hR'.store e hm)
   have hE:=hR'.store e hm
   have hl:e.cs.length=len*n:=by unfold I4 at hE;rw [q3]at hE;exact hE.1
   rw [hid]at k1
   rw [k1]at hsl'
   have hv:v=a'.tmps.getD t Go.undef:=by have:=hsl'.1;injection this
   refine⟨_,len,e.cs,us,rfl,q5,q4,hl,?_,hbel⟩
   rw [←hv]
   rcases k4 with ⟨k4,k5⟩ | ⟨p,rfl,k5,_⟩
   ·refine .inr ⟨AH.mono (G:=G') ⟨Nat.le_refl _,fun _ _ _=>rfl,fun b _ hw=>?_,fun _ _ _ _=>HB.same rfl⟩ _ _ (fun i hi=>absurd (show JE i e.cs=true from hi) (by rw [DE i e.cs q4];simp)) k3,?_⟩
    ·rw [hR'.wr]
     have hw':av b∨v.ownBlock=some b:=hw
     rcases hw' with q | q
     ·exact .inl q
     ·exact .inr ⟨id,by rw [←hid, ←k5];exact q⟩
    ·refine⟨k4.1,?_⟩
     rcases k4.2 with ⟨q,h0⟩ | ⟨g,cap,cur,q,z1,z2,z3,z4,z5,z6⟩
     ·exact .inl ⟨q,h0⟩
     ·refine .inr ⟨g,cap,cur,q,?_,z2,z3,z4,z5,z6⟩
      have hg:G'.blk e.id=some g:=by rw [←k5,q];rfl
      rcases hR'.new _ _ hg with q' | q'
      ·exact q'
      ·exact q'.elim
   ·exact .inl ⟨some p,rfl,k5⟩
  ·have hsl':Ap w' G' (st'.get t) (a'.tmps.getD t Go.undef):=hsl
   rw [q1]at hsl'
   simp only [Ap,Ax]at hsl'
   exact⟨_,0,[],[],rfl,q2,rfl,by simp, .inl ⟨none,hsl',rfl⟩,hbel⟩
 rcases he with rfl | rfl<;>exact fin
end Go.PL
namespace Go.PL
open Go Go.RowKit
theorem F1.flat {P:Program} {I:World→Prop} {f:FuncId} {args:List V} {E n k:Nat} {ds:List C} (h:F1 P I f args E n (fun len cs=>len=k∧cs=ds)):Af P I f args (· = .c (.sl k ds)):=by
 refine⟨h.ent,fun w vs av hI hav hr=>(h.run w vs av hI hav hr).mono ?_⟩
 rintro e w' ⟨v,len,cs,us,he,⟨rfl,rfl⟩,hp,hl,hv,hb⟩
 refine⟨v,_,he,rfl,by simp only [V.pure,C.pure],?_,hb⟩
 simp only [Ap,Ax]
 refine⟨hp,?_⟩
 rcases hv with ⟨p,rfl,rfl⟩ | ⟨hr,hown⟩
 ·exact⟨p,0,rfl,Nat.le_refl _,Nat.zero_le _,fun _=>List.length_eq_zero_iff.1 (by simpa using hl), .inl rfl⟩
 ·have h0:len=0→cs=[]:=fun h0=>List.length_eq_zero_iff.1 (by rw [hl,h0,Nat.zero_mul])
  rcases hown.2 with ⟨q,q0⟩ | ⟨g,cap,cur,q,z1,z2,z3,z4,z5,z6⟩
  ·exact⟨none,0,by rw [q,q0],by omega,Nat.zero_le _,h0, .inl q0⟩
  ·refine⟨_,cap,q,z3,z4,h0, .inr ⟨g,0,rfl,fun ha=>?_,(Array.getElem?_eq_some_iff.1 z2).1,?_⟩⟩
   ·have:=hav g ha;omega
   ·refine A9.of_list (vs:=us) ?_ (Lk z2 (rest:=cur.toList.drop (len*n)) (by rw [←z6,List.take_append_drop]))
    exact AH.mono (G:=im fun b=>av b∨v.ownBlock=some b) ⟨Nat.le_refl _,fun _ _ _=>rfl,fun b _ hw=> .inl hw,fun _ _ _ _=>HB.same rfl⟩ _ _ (fun i hi=>absurd (show JE i cs=true from hi) (by rw [DE i cs hp];simp)) hr
theorem E0.co {P:Program} {I:World→Prop} {o:Oper} {st:St} {K:St→Prop} {f:FuncId} {xs:List Operand} {E n:Nat} {Q:Nat→List C→Prop} {args:List V} {cl:List Prop} (d:Nat)
 (hk:DH o.op= .call f xs) (hd:o.dst=some d) (hc:F1 P I f args E n Q) (ha:BE cl)
 (hK: ∀ len cs,Q len cs→K ((st.new ⟨d::st.pre,some (E,n,len),cs,true⟩).put (some d) (.c (.osl (d::st.pre)))))
 (h1:(GF st true xs).1=cl:=by kernel_rfl) (h2:(GF st true xs).2.map (Dr st)=args:=by kernel_rfl)
 (hp:(FM ((GF st true xs).2.map (Dr st))&&(FY (GF st true xs).2).isEmpty)=true:=by kernel_rfl):E0 P I o st K:=
 E0.callO d hk hd (h1▸ha) hp (h2▸hc) hK
theorem R.guarded {F:Fr} {st:St} {a:Act} {w:World} {G:B4} (h:R F st a w G) {g:Bool} (hg:g=true) (d:Nat):R F (st.put (some d) (.g g (st.get d))) a w G:={
 dfr:=h.dfr
 size:=by simp [St.put,h.size]
 slots:=fun i=>by
  simp only [St.put,List.getD_eq_getElem?_getD,List.getElem?_set]
  by_cases hi:d=i
  ·subst hi
   by_cases hl:d<st.tm.length
   ·rw [if_pos rfl,if_pos hl,Option.getD_some]
    simp only [Ap]
    rw [if_pos hg]
    exact h.slots d
   ·rw [if_pos rfl,if_neg hl,Option.getD_none];simp only [Ap]
  ·rw [if_neg hi]
   have:=h.slots i
   simpa only [List.getD_eq_getElem?_getD] using this
 ghosts:=h.ghosts,store:=h.store,pures:=h.pures,nodup:=h.nodup
 inj:=h.inj,lt:=h.lt,new:=h.new,wr:=h.wr,avlt:=h.avlt,inv:=h.inv,avold:=h.avold,os:=h.os,tape:=h.tape,output:=h.output,hsize:=h.hsize,ext:=h.ext}
theorem Run.inlgJ {P:Program} {I:World→Prop} {ops:Array Oper} {st:St} {K:St→Prop} {X:Type} (S:X→St) (Φ:X→Prop) {l rest:List Oper} {o:Oper} {j:Nat} {want g:Bool} (d:Nat) (hl:l=o::rest) (hg:o.guard=some (j,want)) (hd:o.dst=some d)
 (hT:g=true→E0 P I o st (fun st'=> ∃ v,Φ v∧D4 (st'.put (some d) (.g g (st'.get d))) (S v)))
 (hF:g=false→ ∃ v x,Φ v∧D4 (st.put (some d) (.g g x)) (S v))
 (hK: ∀ v,Φ v→Ct P I ops rest (S v) K) (hgd:Mn st ops j want=some g:=by kernel_rfl):Ct P I ops l st K:=by
 subst hl
 simp only [Ct,kr,hg,hgd]
 refine .inl ⟨fun q=> .inl fun F a w G Q hI hR=>?_,fun q=>?_⟩
 ·refine Oper.wp_mono (fun _ _ ⟨_,G',⟨v,hv,hl⟩,hR'⟩=>?_) (hT q F a w G Q hI hR)
  exact⟨S v,G',hK v hv,(hR'.guarded q d).less hl⟩
 ·obtain⟨v,x,hv,hl⟩:=hF q
  rw [hd]
  exact⟨x,S v,hl,hK v hv⟩
theorem E0.ung {P:Program} {I:World→Prop} {o:Oper} {st:St} {K:St→Prop} {g:Bool} {x:V} (t:Nat) (hg:g=true) (h:E0 P I o (st.put (some t) x) K) (hs:st.get t= .g g x:=by kernel_rfl):E0 P I o st K:=by
 intro F a w G Q hI hR
 refine h F a w G Q hI ?_
 have hx:Ap w G x (a.tmps.getD t Go.undef):=by
  have:=hR.slots t
  have hs':st.tm.getD t .undef = .g g x:=hs
  rw [hs']at this
  simp only [Ap]at this
  rw [if_pos hg]at this
  exact this
 exact {
  dfr:=hR.dfr
  size:=by simp [St.put,hR.size]
  slots:=fun i=>by
   simp only [St.put,List.getD_eq_getElem?_getD,List.getElem?_set]
   by_cases hi:t=i
   ·subst hi
    by_cases hl:t<st.tm.length
    ·rw [if_pos rfl,if_pos hl,Option.getD_some];exact hx
    ·rw [if_pos rfl,if_neg hl,Option.getD_none];simp only [Ap]
   ·rw [if_neg hi]
    have:=hR.slots i
    simpa only [List.getD_eq_getElem?_getD] using this
  ghosts:=hR.ghosts,store:=hR.store,pures:=hR.pures,nodup:=hR.nodup
  inj:=hR.inj,lt:=hR.lt,new:=hR.new,wr:=hR.wr,avlt:=hR.avlt,inv:=hR.inv,avold:=hR.avold,os:=hR.os,tape:=hR.tape,output:=hR.output,hsize:=hR.hsize,ext:=hR.ext}
end Go.PL
