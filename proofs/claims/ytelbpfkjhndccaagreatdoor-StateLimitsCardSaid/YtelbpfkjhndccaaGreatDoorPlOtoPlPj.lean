/- The pure logic: PlO, PlP, PlQ, PlR, PlU, PlW, PlS, PlT, PlV, PlX, PlY, PlZ, PlPa, PlPb, PlPc, PlPl, PlPq, PlPe, PlPf, PlPg, PlPh, PlPi, PlPj. -/
import Derived.Test.YtelbpfkjhndccaaGreatDoorPlAtoPlN
import Derived.LoopN
import Derived.ProofKit
import Derived.OpenShut
import Derived.Handy
import Derived.Lay
import Derived.LaidSub
import Derived.SevenTiedAt
import Derived.Lib.LaidTab
import Derived.Lib.ItoaNum
import Derived.Lib.AtoiAll
import Derived.Lib.Bytealg
import Derived.Lib.ConvBytes
import Derived.Lib.AtoiErrMem
import Derived.Laws.Cover3
namespace Go.PL
open Go Go.RowKit
def Vd (P:Program) (st:St):ResultVar→Prop×V
 | .tmp t=>(True,De st (st.get t))
 | .cell t T=>let r:=KB P T st (st.get t)
   (r.1,De st r.2)
def KI (P:Program) (st:St):List ResultVar→Prop×List V
 | []=>(True,[])
 | x::xs=>((Vd P st x).1∧(KI P st xs).1,(Vd P st x).2::(KI P st xs).2)
def HP (P:Program) (st:St):List ResultVar→Prop×V
 | [x]=>Vd P st x
 | xs=>((KI P st xs).1, .tup (KI P st xs).2)
def ek (P:Program) (fn:Func) (Q:V→Prop):Exit→St→Prop
 | .normal,st=>(HP P st fn.results.toList).1∧(HP P st fn.results.toList).2.pure =true∧Q (HP P st fn.results.toList).2
 | .ret,st=>(HP P st fn.results.toList).1∧(HP P st fn.results.toList).2.pure =true∧Q (HP P st fn.results.toList).2
 | _,_=>False
def St.start (args:List V) (n:Nat):St:={tm:=args++List.replicate (n - args.length) .undef,so:=[]}
theorem Hg {w:World} {G:B0}: ∀ {xs:List V} {vs:List Value},Bc w G xs vs→xs.length=vs.length
 | [],vs,h=>by simp only [Bc]at h;subst h;rfl
 | x::xs,vs,h=>by
   simp only [Bc]at h
   obtain⟨v,r,rfl,_,h2⟩:=h
   simp [Hg h2]
def QK (I:World→Prop):Prop:= ∀ w w':World,I w→w.heap.size≤w'.heap.size→(∀ b,b<w.heap.size→w'.heap[b]? =w.heap[b]?)→I w'
theorem R.start {I:World→Prop} (hst:QK I) {w:World} (hI:I w) {vs:Array Value} {av:Nat→Prop} (hav: ∀ b,av b→b<w.heap.size) {args:List V} (h:Bc w (im av) args vs.toList) (n:Nat):
 R ⟨w,av,fun _=>False,I,[]⟩ (St.start args n) {tmps:=vs++Array.replicate (n - vs.size) Go.undef,defers:=[]} w (im av):=by
 have hl:=Hg h
 have hl':args.length=vs.size:=by simpa using hl
 exact {
  dfr:=rfl
  size:=by simp [St.start,hl']
  slots:=by
   intro i
   simp only [St.start,List.getD_eq_getElem?_getD,Array.getD_eq_getD_getElem?]
   by_cases hi:i<args.length
   ·obtain⟨v,q1,q2⟩:=LR h i hi
    have e1:(vs++Array.replicate (n - vs.size) Go.undef)[i]? =some v:=by
     rw [Array.getElem?_append_left (by omega)];simpa using q1
    rw [e1,List.getElem?_append_left hi]
    simpa [List.getD_eq_getElem?_getD] using q2
   ·rw [List.getElem?_append_right (by omega),List.getElem?_replicate]
    split<;>simp [Ap]
  ghosts:=by simp [St.start,Bc]
  store:=by simp [St.start]
  pures:=by simp [St.start]
  nodup:=by simp [St.start]
  inj:=by simp [im]
  lt:=by simp [im]
  new:=by simp [im]
  wr:=by simp [im]
  avlt:=hav
  inv:=fun w' h1 h2=>hst w w' hI h1 (fun b hb=>h2 b hb (by simp))
  avold:=by simp
  os:=rfl,tape:=rfl,output:=rfl,hsize:=Nat.le_refl _,ext:=fun _ _ _=>rfl}
section
variable {P:Program} {F:Fr} {st:St} {a:Act} {w:World} {G:B0}
theorem R.out (h:R F st a w G) (hold: ∀ b, ¬F.old b) {x:V} {v:Value} (hp:(De st x).pure =true) (hr:Ap w G x v):Ap w (im F.av) (De st x) v:=by
 refine V0 h (fun b _ hb=>(h.wr b).2 (.inl hb)) (fun id _ _ b hb hav=>?_) hp hr
 rcases h.new id b hb with q | q
 ·have:=h.avlt b hav;omega
 ·exact hold b q
theorem V3 {t:TypeId} {x:V} {u:Value} (hx:Ap w G x u) (hs:(KB P t st x).1): ∃ p,u= .pointer (some p):=by
 unfold KB at hs
 split at hs
 ·simp only [Ap,As]at hx
  obtain⟨b,_,rfl⟩:=hx
  exact⟨_,rfl⟩
 ·simp only [Ap,As]at hx
  obtain⟨_,b,o,rfl,_⟩:=hx
  exact⟨_,rfl⟩
 ·exact hs.elim
def KJ (tmps:Array Value):ResultVar→Sem Value
 | .tmp t=>pure (tmps.getD t Go.undef)
 | .cell a t=>do loadVar t (←asAddr (tmps.getD a Go.undef))
theorem TK (h:R F st a w G) (hold: ∀ b, ¬F.old b) {x:ResultVar} (hs:(Vd P st x).1) (hp:(Vd P st x).2.pure =true):
 ∃ v,(KJ a.tmps x).run P w= .ok v w∧Ap w (im F.av) (Vd P st x).2 v:=by
 cases x with
 | tmp t=>exact⟨_,rfl,h.out hold hp (h.slots t)⟩
 | cell t T=>
   simp only [Vd]at hs hp ⊢
   obtain⟨v,q1,q2⟩:=Nb (P:=P) h (h.slots t) hs
   obtain⟨p,hptr⟩:=V3 (h.slots t) hs
   refine⟨v,?_,h.out hold hp q1⟩
   have:=q2 w (I2.refl w)
   rw [hptr]at this
   simp only [KJ,hptr,asAddr,Sem.run_bind,Sem.run_pure,Result.andThen_ok]
   simpa [Instr.loadAt,Instr.sureAddr] using this
theorem RJ (h:R F st a w G) (hold: ∀ b, ¬F.old b): ∀ {xs:List ResultVar},(KI P st xs).1→E9 (KI P st xs).2=true→
 ∃ vs,(xs.mapM (KJ a.tmps)).run P w= .ok vs w∧Bc w (im F.av) (KI P st xs).2 vs
 | [],_,_=>⟨[],by simp,by simp [KI,Bc]⟩
 | x::xs,hs,hp=>by
   simp only [KI]at hs hp ⊢
   simp only [E9,Bool.and_eq_true]at hp
   obtain⟨v,q1,q2⟩:=TK h hold hs.1 hp.1
   obtain⟨vs,k1,k2⟩:=RJ h hold hs.2 hp.2
   exact⟨v::vs,by simp [List.mapM_cons,q1,k1],by simp only [Bc];exact⟨v,vs,rfl,q2,k2⟩⟩
theorem IB {fn:Func} {tmps:Array Value} {vs:List Value} (h:(fn.results.toList.mapM (KJ tmps)).run P w= .ok vs w):
 (results fn tmps).run P w= .ok (match vs with | [v]=>v | vs=> .tuple vs.toArray) w:=by
 have e:fn.results.mapM (KJ tmps)=List.toArray<$>fn.results.toList.mapM (KJ tmps):=by
  obtain⟨l,hl⟩: ∃ l:List ResultVar,fn.results=l.toArray:=⟨fn.results.toList,by simp⟩
  rw [hl,List.mapM_toArray]
 have e2:results fn tmps=(do
  let vs ←fn.results.mapM (KJ tmps)
  pure (if h:vs.size=1 then vs[0]else .tuple vs)):=by
  unfold results
  congr 1
  all_goals (try (congr 1;funext x;cases x<;>rfl))
 rw [e2,e]
 simp only [Sem.run_bind,Sem.run_map,h,Result.andThen_ok]
 match vs with
 | []=>simp
 | [v]=>simp
 | v::u::vs=>simp
theorem ZV (h:R F st a w G) (hold: ∀ b, ¬F.old b) {fn:Func} (hs:(HP P st fn.results.toList).1) (hp:(HP P st fn.results.toList).2.pure =true):
 ∃ v,(results fn a.tmps).run P w= .ok v w∧Ap w (im F.av) (HP P st fn.results.toList).2 v:=by
 unfold HP at *
 split at hs
 ·rename_i x hx
  simp only [hx]at hp ⊢
  obtain⟨v,q1,q2⟩:=TK h hold hs hp
  exact⟨v,by have:=IB (P:=P) (w:=w) (fn:=fn) (tmps:=a.tmps) (vs:=[v]) (by rw [hx];simp [q1]);simpa using this,q2⟩
 ·rename_i xs hne
  split at hp
  ·rename_i x hx;exact absurd hx (hne x)
  ·obtain⟨vs,q1,q2⟩:=RJ h hold hs (by simpa only [V.pure] using hp)
   refine⟨.tuple vs.toArray,?_,?_⟩
   ·have:=IB (P:=P) (w:=w) (fn:=fn) (tmps:=a.tmps) q1
    rw [this]
    have hl:=Hg q2
    match hvs:vs with
    | []=>rfl
    | [v]=>
      exfalso
      have hxl: ∀ xs:List ResultVar,(KI P st xs).2.length =xs.length:=by
       intro xs;induction xs with
       | nil=>rfl
       | cons x xs ih=>simp [KI,ih]
      rw [hxl]at hl
      match hr:fn.results.toList,hl with
      | [x],_=>exact hne x hr
    | v::u::vs=>rfl
   ·simp only [Ap];exact⟨_,rfl,by simpa using q2⟩
theorem R.below (h:R F st a w G) (hold: ∀ b, ¬F.old b):Below F.w0.heap.size F.w0 w:=⟨h.os,h.tape,h.output,h.hsize,fun b hb=>h.ext b hb (hold b)⟩
end
theorem Ah.of {P:Program} {I:World→Prop} (hst:QK I) {f:FuncId} {fn:Func} {c:Code} {args:List V} {Q:V→Prop} (hent:PL.ent P f=true) (hf:P.funcs[f]? =some fn) (hb:fn.body=some c)
 (h: ∀ F,F.I=I→Ai P F c (St.start args fn.ntmps) (ek P fn Q)):Ah P I f args Q:=by
 refine⟨hent,fun w vs av hI hav hargs=>calls_of_wp hf hb ?_⟩
 have hR:=R.start hst hI hav hargs fn.ntmps
 refine Code.wp_mono (fun e a' w' ⟨st',G',q,hR'⟩=>?_) (h _ rfl _ _ _ hR)
 have fin:(HP P st' fn.results.toList).1∧(HP P st' fn.results.toList).2.pure =true∧Q (HP P st' fn.results.toList).2→
  a'.defers=[]∧ ∃ v,(results fn a'.tmps).run P w'= .ok v w'∧(fun(e:Ending) w''=> ∃ v r,e= .returned v∧Q r∧r.pure=true∧Ap w'' (im av) r v∧Below w.heap.size w w'') (.returned v) w':=by
  intro ⟨q1,q2,q3⟩
  obtain⟨v,k1,k2⟩:=ZV hR' (fun _ hx=>hx) (fn:=fn) q1 q2
  exact⟨hR'.dfr,v,k1,v,_,rfl,q3,q2,k2,hR'.below (fun _ hx=>hx)⟩
 cases e<;>simp only [ek]at q<;>first | exact fin q | exact q.elim
end Go.PL
namespace Go.PL
open Go Go.RowKit
section
variable {P:Program} {I:World→Prop} {F:Fr} {ops:Array Oper} {rest:List Oper} {st st1:St} {d:Option Nat} {op:Op} {ty:TypeId} {pos:String} {af:Array Edge}
theorem Ai.run {id:Nat} {Q:Exit→St→Prop} (h:Cm P F.I ops ops.toList st (Q .normal)):Ai P F (.region id ops false) st Q:=
 Ai.region h
variable {K:St→Prop}
theorem Run.nil (h:K st):Cm P I ops [] st K:=h
theorem RunQ.nil (h:K st):Jy P I ops [] st K:=h
theorem B4.normal {Q:Exit→St→Prop} (h:K st):B4 K Q .normal st:=h
theorem B4.ret {Q:Exit→St→Prop} (h:Q .ret st):B4 K Q .ret st:=h
theorem B4.exit {Q:Exit→St→Prop} {i:Nat} (h:Q (.exit i) st):B4 K Q (.exit i) st:=h
theorem BL.normal {Q:Exit→St→Prop} {i:Nat} (h:Q .normal st):BL i Q .normal st:=h
theorem BL.ret {Q:Exit→St→Prop} {i:Nat} (h:Q .ret st):BL i Q .ret st:=h
theorem BL.out {Q:Exit→St→Prop} {i:Nat} (h:Q .normal st):BL i Q (.exit i) st:=by simp only [BL,if_true];exact h
theorem BL.on {Q:Exit→St→Prop} {i j:Nat} (hj:(j==i)=false) (h:Q (.exit j) st):BL i Q (.exit j) st:=by
 have: ¬j=i:=by simpa using hj
 simp only [BL,this,if_false];exact h
theorem Run.rd {s:Prop} {v:V} (hk:Dx op= .rd) (hv:J0 P st true op=(s,v)) (hs:s) (hp:st.put d v=st1) (h:Cm P I ops rest st1 K):Cm P I ops (⟨d,op,ty,pos,af,none⟩::rest) st K:=by
 simp only [Cm,dR,dQ,hk,hv,hp]
 exact .inr ⟨hs,h⟩
theorem RunQ.rd {s:Prop} {v:V} (hk:Dx op= .rd) (hv:J0 P st true op=(s,v)) (hs:s) (hp:st.put d v=st1) (h:Jy P I ops rest st1 K):Jy P I ops (⟨d,op,ty,pos,af,none⟩::rest) st K:=by
 simp only [Jy,jV,jU,hk,hv,hp]
 exact⟨hs,h⟩
theorem Run.ef {s:Prop} (hk:Dx op= .ef) (hv:PL.ef P st ⟨d,op,ty,pos,af,none⟩=(s,st1)) (hs:s) (h:Cm P I ops rest st1 K):Cm P I ops (⟨d,op,ty,pos,af,none⟩::rest) st K:=by
 simp only [Cm,dR,dQ,hk,hv]
 exact .inr ⟨hs,h⟩
theorem Run.cut {x:Operand} {s:Prop} {v:V} {st0:St} (hk:Dx op= .cut x) (hc:st.cutAt true x=st0) (hv:J0 P st0 true op=(s,v)) (hs:s) (hp:st0.put d v=st1) (h:Cm P I ops rest st1 K):
 Cm P I ops (⟨d,op,ty,pos,af,none⟩::rest) st K:=by
 simp only [Cm,dR,dQ,hk,hc,hv,hp]
 exact .inr ⟨hs,h⟩
theorem RunQ.cut {x:Operand} {s:Prop} {v:V} (hk:Dx op= .cut x) (hv:J0 P st true op=(s,v)) (hs:s) (hp:st.put d v=st1) (h:Jy P I ops rest st1 K):
 Jy P I ops (⟨d,op,ty,pos,af,none⟩::rest) st K:=by
 simp only [Jy,jV,jU,hk,hv,hp]
 exact⟨hs,h⟩
theorem Run.call {f:FuncId} {xs:List Operand} {s:Prop} {vs us:List V} {r:V} (hk:Dx op= .call f xs) (ha:st.args true xs=(s,vs)) (hs:s) (hu:vs.map (De st)=us) (hpu:E9 us=true)
 (hc:Ah P I f us (· =r)) (hf:r.flat=true∨(Fg vs).length ≤1∧ ∀ id∈Fg vs,st.okFrz id=true) (hp:st.after (Fg vs) d r=st1) (h:Cm P I ops rest st1 K):
 Cm P I ops (⟨d,op,ty,pos,af,none⟩::rest) st K:=by
 simp only [Cm,dR,dQ,hk,ha,hu]
 refine .inr ⟨hs,hpu,_,hc,fun r' hr'=>?_⟩
 subst hr'
 rw [hp]
 exact⟨hf,h⟩
theorem RunQ.call {f:FuncId} {xs:List Operand} {s:Prop} {vs us:List V} {r:V} (hk:Dx op= .call f xs) (ha:st.args true xs=(s,vs)) (hs:s) (hu:vs.map (De st)=us) (hpu:E9 us=true)
 (hc:Ah P I f us (· =r)) (hf:r.flat=true) (hp:st.put d r=st1) (h:Jy P I ops rest st1 K):
 Jy P I ops (⟨d,op,ty,pos,af,none⟩::rest) st K:=by
 simp only [Jy,jV,jU,hk,ha,hu]
 refine⟨hs,hpu,r,hf,hc,?_⟩
 rw [hp]
 exact h
variable {j:Nat} {want g:Bool}
theorem Ah.body (hsta:QK I) {f:FuncId} {fn:Func} {c:Code} {args:List V} {Q:V→Prop} {n:Nat} {rs:List ResultVar} (hent:PL.ent P f=true) (hf:P.funcs[f]? =some fn) (hb:fn.body=some c) (hn:fn.ntmps=n) (hr:fn.results=rs.toArray)
 (hst:St.start args n=st)
 (h: ∀ w0 av old gv,Ai P ⟨w0,av,old,I,gv⟩ c st (fun e st'=>(e= .normal ∨e= .ret)∧(HP P st' rs).1∧(HP P st' rs).2.pure =true∧Q (HP P st' rs).2)):Ah P I f args Q:=by
 refine Ah.of hsta hent hf hb (fun F hF=>?_)
 obtain⟨w0,av,old,I',gv⟩:=F
 simp only at hF;subst hF
 rw [hn,hst]
 refine(h w0 av old gv).mono fun e st' ⟨he,q⟩=>?_
 have:fn.results.toList=rs:=by rw [hr]
 rcases he with rfl | rfl<;>simp only [ek,this]<;>exact q
end
end Go.PL
namespace Go.PL
open Go Go.RowKit
attribute [go_sem] Dx J0 rd Pj WX St.arg St.args St.ev St.get SV Na Kz bn QF WP Rx EX Nd Nf LP jg jQ jR HO WV
 St.put St.after St.look St.setCs St.cutAt St.freeze St.new St.kill CT.kill St.start St.parts
 KB Me GP Nk GQ Nl Mf Va cE cF Mg Ni Po OO TC M2 V.cells Np ei Le RE RF FO PL.ef VW
 J3 Oz De Vc jS Fg JW LS C.men Ii V.men RY C.flat V.flat TD C.pure Bq V.pure E9 HP Vd KI Oo Tw Ty St.okFrz
attribute [go_sem] List.getD_cons_zero List.getD_cons_succ List.set_cons_zero List.set_cons_succ List.map_cons List.map_nil List.filter_cons List.filter_nil List.find?_cons List.find?_nil
 List.cons_append List.nil_append List.length_cons List.length_nil List.replicate_succ List.replicate_zero List.take_succ_cons List.take_zero List.drop_succ_cons List.drop_zero List.flatMap_cons List.flatMap_nil List.append_nil
 List.all_cons List.all_nil Bool.and_true Bool.true_and Bool.and_false Bool.false_and Bool.or_false Bool.or_true Bool.false_or Bool.true_or
 beq_self_eq_true if_true if_false true_and and_true Option.map_some Option.map_none List.getElem?_cons_zero List.getElem?_cons_succ
theorem jW {α:Type} (a b:α):(if true=true then a else b)=a:=rfl
theorem jX {α:Type} (a b:α):(if false=true then a else b)=b:=rfl
theorem me:(true=true)=True:=by simp
theorem mf:(false=true)=False:=by simp
theorem jY (p:Prop):(true=true→p)=p:=by simp
theorem ite_ff' (b:Bool):(if b then true else false)=b:=by cases b<;>rfl
theorem beq_true' (b:Bool):(b==true)=b:=by cases b<;>rfl
theorem beq_false' (b:Bool):(b==false)= !b:=by cases b<;>rfl
theorem gI (b c:Bool):(if b then c else false)=(b&&c):=by cases b<;>rfl
theorem jZ (b c:Bool):(if b then true else c)=(b||c):=by cases b<;>rfl
attribute [go_sem] jW jX me mf jY ite_ff' beq_true' beq_false' gI jZ Bool.not_true Bool.not_false Bool.not_not
end Go.PL
namespace Go.PL
open Go Go.RowKit
def M3:List V→List V→Prop
 | [],[]=>True
 | a::l,b::m=>(b= .undef ∨b=a)∧M3 l m
 | _,_=>False
theorem M3.nil:M3 [] []:=trivial
theorem M3.skip {a:V} {l m:List V} (h:M3 l m):M3 (a::l) (.undef ::m):=⟨.inl rfl,h⟩
theorem M3.get: ∀ {l m:List V},M3 l m→m.length=l.length∧ ∀ i,m.getD i .undef = .undef ∨m.getD i .undef =l.getD i .undef
 | [],[],_=>⟨rfl,fun _=> .inr rfl⟩
 | a::l,b::m,h=>by
   obtain⟨h1,h2⟩:=h
   obtain⟨q1,q2⟩:=M3.get h2
   refine⟨by simp [q1],fun i=>?_⟩
   cases i with
   | zero=>simpa using h1
   | succ i=>simpa using q2 i
 | [],_::_,h=>h.elim
 | _::_,[],h=>h.elim
theorem D4.of {t t' g g':List V} {s s':List CT} {p:Cz} (h:M3 t t') (hg:M3 g g') (hs:s'.Sublist s):D4 ⟨t,s,g,p⟩ ⟨t',s',g',p⟩:=⟨h.get.1,h.get.2,fun _ he=>hs.subset he,fun hn=>List.Sublist.nodup (List.Sublist.map (fun d:CT=>d.id) hs) hn,hg.get,rfl⟩
theorem lessE.nil {s:List CT}:([]:List CT).Sublist s:=List.nil_sublist _
theorem lessE.skip {e:CT} {s s':List CT} (hs:s'.Sublist s):s'.Sublist (e::s):=hs.cons _
theorem gJ (a b:Nat):(([a]:List Nat)==[b])=(a==b):=by simp [List.cons_beq_cons]
theorem gK (a b:Nat):(([a]:List Nat) != [b])=(a != b):=by simp [bne,List.cons_beq_cons]
theorem em (a b c d:Nat):(([a,c]:List Nat)==[b,d])=(a==b&&c==d):=by simp [List.cons_beq_cons]
theorem kb (a b:Nat):(([a]:List Nat)=[b])=(a=b):=by simp
theorem Yl (z:List C):EK z 0=[]:=by simp [EK]
theorem Ym (z:List C) (k:Nat):EK z (k+1)=z++EK z k:=by
 unfold EK
 have e:(k+1)*z.length=z.length+k*z.length:=by rw [Nat.add_mul,Nat.one_mul,Nat.add_comm]
 rw [e,List.range_add,List.map_append]
 congr 1
 ·apply List.ext_getElem<;>simp
  intro i h
  rw [Nat.mod_eq_of_lt h]
  simp [h]
 ·rw [List.map_map]
  apply List.map_congr_left
  intro i _
  simp [Function.comp]
theorem W2 (k:IntKind) (l:List Int):Bq (l.map (C.int k))=true:=NZ _ (fun _=>rfl) l
theorem W3 (l:List (List UInt8)):Bq (l.map C.str)=true:=NZ _ (fun _=>rfl) l
theorem Ve (l:List Bool):Bq (l.map C.bool)=true:=NZ _ (fun _=>rfl) l
theorem Nt {g:C→C} (hg: ∀ c:C,c.pure=true→g c=c): ∀ {l:List C},Bq l=true→l.map g=l
 | [],_=>rfl
 | c::l,h=>by
   simp only [Bq,Bool.and_eq_true]at h
   rw [List.map_cons,hg c h.1,Nt hg h.2]
theorem ZW (id:Cz) {c:C} (h:c.pure=true):JW id c=c:=by simp [JW,Pl id c h]
theorem ZX {l:List C} (id:Cz) (h:Bq l=true):l.map (JW id)=l:=Nt (fun _ hc=>ZW id hc) h
theorem cS {id:Cz} {len:Nat} {cs:List C} {c:C} (h:c.pure=true):Oo id len cs c=c:=by
 cases c<;>simp_all [Oo,C.pure,Dt]
theorem cT {id:Cz} {len:Nat} {cs:List C} {l:List C} (h:Bq l=true):l.map (Oo id len cs)=l:=Nt (fun _ hc=>cS hc) h
theorem cU {c:C} (h:c.pure=true):Vc c=[]:=by cases c<;>simp_all [Vc,C.pure]
theorem V4: ∀ {l:List C},Bq l=true→l.flatMap Vc=[]
 | [],_=>rfl
 | c::l,h=>by
   simp only [Bq,Bool.and_eq_true]at h
   rw [List.flatMap_cons,cU h.1,V4 h.2];rfl
attribute [go_sem] IK W2 W3 Ve ZX cT V4 Dt
attribute [go_sem] gJ gK em kb Yl Ym Nat.reduceLeDiff Nat.reduceLT Nat.le_refl Nat.reduceBEq Nat.reduceBNe Nat.reduceMul Nat.reduceAdd Nat.reduceSub
end Go.PL
namespace Go.PL
open Go Go.RowKit
section
variable {P:Program} {F:Fr} {st:St} {c:Code} {Q:Exit→St→Prop}
def W4 (P:Program) (F:Fr) (c:Code) (Q:Exit→St→Prop):Nat→St→Prop
 | 0,_=>False
 | n+1,st=>Ai P F c st (B4 (W4 P F c Q n) Q)
theorem W4.step {n:Nat} (h:Ai P F c st (B4 (W4 P F c Q n) Q)):W4 P F c Q (n+1) st:=h
end
end Go.PL
namespace Go.PL
open Go Go.RowKit
def W5 (st:St) (x:Operand):Option (FuncId×List C):=
 match st.ev x with
 | .c (.fn f)=>some (f,[])
 | .c (.clo f cs)=>some (f,cs)
 | _=>none
def St.enter (st:St) (k:Nat) (args:List V) (n:Nat):St:=⟨args++List.replicate (n - args.length) .undef,st.so,st.tm++st.gh,k::st.pre⟩
def St.back (st:St) (m:Nat) (pre:Cz) (d:Option Nat) (r:V):St:=(⟨st.gh.take m,st.so,st.gh.drop m,pre⟩:St).put d r
def Vf (P:Program) (st:St):ResultVar→Prop×V
 | .tmp t=>(True,st.get t)
 | .cell t T=>KB P T st (st.get t)
def Jz (P:Program) (st:St):List ResultVar→Prop×List V
 | []=>(True,[])
 | x::xs=>((Vf P st x).1∧(Jz P st xs).1,(Vf P st x).2::(Jz P st xs).2)
def HQ (P:Program) (st:St):List ResultVar→Prop×V
 | [x]=>Vf P st x
 | xs=>((Jz P st xs).1, .tup (Jz P st xs).2)
section
variable {P:Program} {F:Fr} {st:St} {a:Act} {w:World} {G:B0}
theorem TL (h:R F st a w G) {x:ResultVar} (hs:(Vf P st x).1): ∃ v,(KJ a.tmps x).run P w= .ok v w∧Ap w G (Vf P st x).2 v:=by
 cases x with
 | tmp t=>exact⟨_,rfl,h.slots t⟩
 | cell t T=>
   simp only [Vf]at hs ⊢
   obtain⟨v,q1,q2⟩:=Nb (P:=P) h (h.slots t) hs
   obtain⟨p,hptr⟩:=V3 (h.slots t) hs
   refine⟨v,?_,q1⟩
   have:=q2 w (I2.refl w)
   rw [hptr]at this
   simp only [KJ,hptr,asAddr,Sem.run_bind,Sem.run_pure,Result.andThen_ok]
   simpa [Instr.loadAt,Instr.sureAddr] using this
theorem RK (h:R F st a w G): ∀ {xs:List ResultVar},(Jz P st xs).1→ ∃ vs,(xs.mapM (KJ a.tmps)).run P w= .ok vs w∧Bc w G (Jz P st xs).2 vs
 | [],_=>⟨[],by simp,by simp [Jz,Bc]⟩
 | x::xs,hs=>by
   simp only [Jz]at hs ⊢
   obtain⟨v,q1,q2⟩:=TL h hs.1
   obtain⟨vs,k1,k2⟩:=RK h hs.2
   exact⟨v::vs,by simp [List.mapM_cons,q1,k1],by simp only [Bc];exact⟨v,vs,rfl,q2,k2⟩⟩
theorem cV {xs:List ResultVar}:(Jz P st xs).2.length =xs.length:=by
 induction xs with
 | nil=>rfl
 | cons x xs ih=>simp [Jz,ih]
theorem Pw (h:R F st a w G) {fn:Func} (hs:(HQ P st fn.results.toList).1): ∃ v,(results fn a.tmps).run P w= .ok v w∧Ap w G (HQ P st fn.results.toList).2 v:=by
 generalize hx:fn.results.toList=xs at hs ⊢
 match xs,hx,hs with
 | [x],hx,hs=>
   simp only [HQ]at hs ⊢
   obtain⟨v,q1,q2⟩:=TL h hs
   exact⟨v,by have:=IB (P:=P) (w:=w) (fn:=fn) (tmps:=a.tmps) (vs:=[v]) (by rw [hx];simp [q1]);simpa using this,q2⟩
 | [],hx,hs=>
   refine⟨.tuple #[],?_,by simp [HQ,Jz,Ap,Bc]⟩
   have:=IB (P:=P) (w:=w) (fn:=fn) (tmps:=a.tmps) (vs:=[]) (by rw [hx];simp)
   simpa using this
 | x::y::xs,hx,hs=>
   simp only [HQ]at hs ⊢
   obtain⟨vs,q1,q2⟩:=RK h hs
   refine⟨.tuple vs.toArray,?_,by simp only [Ap];exact⟨_,rfl,by simpa using q2⟩⟩
   have:=IB (P:=P) (w:=w) (fn:=fn) (tmps:=a.tmps) (by rw [hx];exact q1)
   rw [this]
   have hl:=Hg q2
   rw [cV]at hl
   match vs,hl with
   | v::u::vs,_=>rfl
theorem J5 {w:World} {G:B0}: ∀ {xs ys:List V} {us vs:List Value},Bc w G xs us→Bc w G ys vs→Bc w G (xs++ys) (us++vs)
 | [],_,us,_,h,h'=>by simp only [Bc]at h;subst h;simpa using h'
 | x::xs,ys,us,vs,h,h'=>by
   simp only [Bc]at h
   obtain⟨v,r,rfl,h1,h2⟩:=h
   simp only [List.cons_append,Bc]
   exact⟨v,r++vs,rfl,h1,J5 h2 h'⟩
theorem RL {w:World} {G:B0}: ∀ {xs:List V} {us vs:List Value},Bc w G xs (us++vs)→Bc w G (xs.take us.length) us∧Bc w G (xs.drop us.length) vs
 | xs,[],vs,h=>⟨by simp [Bc],by simpa using h⟩
 | [],u::us,vs,h=>by simp [Bc]at h
 | x::xs,u::us,vs,h=>by
   simp only [List.cons_append,Bc]at h
   obtain⟨v,r,e,h1,h2⟩:=h
   injection e with e1 e2;subst e1 e2
   obtain⟨k1,k2⟩:=RL h2
   simp only [List.length_cons,List.take_succ_cons,List.drop_succ_cons,Bc]
   exact⟨⟨_,_,rfl,h1,k1⟩,k2⟩
theorem Nu {w:World} {G:B0}: ∀ {xs:List V} {us:List Value},xs.length=us.length→(∀ i,Ap w G (xs.getD i .undef) (us.getD i Go.undef))→Bc w G xs us
 | [],[],_,_=>by simp [Bc]
 | x::xs,u::us,hl,h=>by
   simp only [Bc]
   exact⟨u,us,rfl,by simpa using h 0,Nu (by simpa using hl) (fun i=>by simpa using h (i+1))⟩
 | [],_::_,hl,_=>by simp at hl
 | _::_,[],hl,_=>by simp at hl
theorem QL {w:World} {G:B0}: ∀ {cs:List C} {us:List Value},AD w G cs us→Bc w G (cs.map V.c) us
 | [],[],_=>by simp [Bc]
 | c::cs,u::us,h=>by
   simp only [AD]at h
   simp only [List.map_cons,Bc]
   exact⟨u,us,rfl,by simp only [Ap];exact h.1,QL h.2⟩
 | [],_::_,h=>by simp [AD]at h
 | _::_,[],h=>by simp [AD]at h
theorem R.enter (h:R F st a w G) (k:Nat) {args:List V} {us:Array Value} (ha:Bc w G args us.toList) (n:Nat):
 R {F with gv:=a.tmps.toList++F.gv} (st.enter k args n) {tmps:=us++Array.replicate (n - us.size) Go.undef,defers:=[]} w G:=by
 have hl:=Hg ha
 have hl':args.length=us.size:=by simpa using hl
 exact {
  dfr:=rfl
  size:=by simp [St.enter,hl']
  slots:=by
   intro i
   simp only [St.enter,List.getD_eq_getElem?_getD,Array.getD_eq_getD_getElem?]
   by_cases hi:i<args.length
   ·obtain⟨v,q1,q2⟩:=LR ha i hi
    have e1:(us++Array.replicate (n - us.size) Go.undef)[i]? =some v:=by
     rw [Array.getElem?_append_left (by omega)];simpa using q1
    rw [e1,List.getElem?_append_left hi]
    simpa [List.getD_eq_getElem?_getD] using q2
   ·rw [List.getElem?_append_right (by omega),List.getElem?_replicate]
    split<;>simp [Ap]
  ghosts:=J5 (Nu (by simpa using h.size.symm) (fun i=>by
   have:=h.slots i
   simpa [List.getD_eq_getElem?_getD,Array.getD_eq_getD_getElem?] using this)) h.ghosts
  store:=h.store,pures:=h.pures,nodup:=h.nodup,inj:=h.inj,lt:=h.lt,new:=h.new,wr:=h.wr,avlt:=h.avlt,inv:=h.inv,avold:=h.avold
  os:=h.os,tape:=h.tape,output:=h.output,hsize:=h.hsize,ext:=h.ext}
theorem ZY {w:World} {G:B0} {xs:List V} {us:List Value} (h:Bc w G xs us) (i:Nat):Ap w G (xs.getD i .undef) (us.getD i Go.undef):=by
 by_cases hi:i<xs.length
 ·obtain⟨v,q1,q2⟩:=LR h i hi
  rw [List.getD_eq_getElem?_getD (l:=us),q1];exact q2
 ·have:xs.getD i .undef = .undef :=by simp [List.getD_eq_getElem?_getD,hi]
  rw [this];simp only [Ap]
theorem R.back {a':Act} {st':St} (hd:a.defers=[]) {gv:List Value} (hgv:F.gv=a.tmps.toList++gv) (h:R F st' a' w G) {m:Nat} (hm:m=a.tmps.size) (pre:Cz):R {F with gv:=gv} ⟨st'.gh.take m,st'.so,st'.gh.drop m,pre⟩ a w G:=by
 have hg:=h.ghosts
 rw [hgv]at hg
 obtain⟨h1,h2⟩:=RL hg
 have e:a.tmps.toList.length=m:=by simp [hm]
 rw [e]at h1 h2
 exact {
  dfr:=hd
  size:=by have:=Hg h1;simp at this ⊢;omega
  slots:=fun i=>by
   have:=ZY h1 i
   simpa [List.getD_eq_getElem?_getD,Array.getD_eq_getD_getElem?] using this
  ghosts:=h2
  store:=h.store,pures:=h.pures,nodup:=h.nodup,inj:=h.inj,lt:=h.lt,new:=h.new,wr:=h.wr,avlt:=h.avlt,inv:=h.inv,avold:=h.avold
  os:=h.os,tape:=h.tape,output:=h.output,hsize:=h.hsize,ext:=h.ext}
end
def bq (P:Program) (rs:List ResultVar) (m:Nat) (pre:Cz) (d:Option Nat) (K:St→Prop):Exit→St→Prop
 | .normal,st=>(HQ P st rs).1∧K (st.back m pre d (HQ P st rs).2)
 | .ret,st=>(HQ P st rs).1∧K (st.back m pre d (HQ P st rs).2)
 | _,_=>False
theorem EB.inline {P:Program} {I:World→Prop} {o:Oper} {st:St} {K:St→Prop} {x:Operand} {xs:List Operand} {c:Call} {s:Prop} {vs:List V} {f:FuncId} {cs:List C} {fn:Func} {body:Code} {n:Nat} {rs:List ResultVar} (k:Nat)
 (ho:o.op= .call c) (hcal:c.callee= .value x) (hxs:c.args.toList=xs) (ha:st.args true xs=(s,vs)) (hs:s) (hf:W5 st x=some (f,cs)) (hent:ent P f=true) (hfn:P.funcs[f]? =some fn) (hb:fn.body=some body) (hn:fn.ntmps=n) (hr:fn.results=rs.toArray)
 (h: ∀ w0 av old gv,Ai P ⟨w0,av,old,I,gv⟩ body (st.enter k (vs++cs.map V.c) n) (bq P rs st.tm.length st.pre o.dst K)):EB P I o st K:=by
 intro F a w G Q hI hR
 have hargs:Bc w G vs (xs.map a.eval):=by
  have:=hR.args (g:=true) rfl (xs:=xs) (by rw [ha];exact hs)
  rw [ha]at this;exact this
 obtain⟨arr,hev,hcs⟩: ∃ arr:Array Value,a.eval x= .func (.func f) #[] arr∧AD w G cs arr.toList:=by
  have hx:=hR.ev x
  unfold W5 at hf
  split at hf
  ·rename_i f' he
   rw [he]at hx
   simp only [Option.some.injEq,Prod.mk.injEq]at hf
   obtain⟨rfl,rfl⟩:=hf
   simp only [Ap,As]at hx
   exact⟨#[],hx,by simp [AD]⟩
  ·rename_i f' cs' he
   rw [he]at hx
   simp only [Option.some.injEq,Prod.mk.injEq]at hf
   obtain⟨rfl,rfl⟩:=hf
   simpa only [Ap,As] using hx
  ·cases hf
 have hrun:(execOp a.eval o).run P w= .ok (.enter f ((xs.map a.eval).toArray ++arr)) w:=by
  have e:c.args.map a.eval=(xs.map a.eval).toArray :=by apply Array.ext';simp [←hxs]
  simp [execOp,ho,resolve,hcal,hev,Deferred.ofValue,invoke,run_callFunc' hent,e]
 unfold Oper.wp Oper.upon
 rw [hrun]
 simp only
 obtain⟨w0,av,old,I',gv⟩:=F
 simp only at hI;subst hI
 have hall:Bc w G (vs++cs.map V.c) ((xs.map a.eval).toArray ++arr).toList :=by
  simpa using J5 hargs (QL hcs)
 refine calls_of_wp hfn hb ?_
 have hR0:=hR.enter k hall fn.ntmps
 rw [hn]at hR0
 rw [hn]
 refine Code.wp_mono (fun e a' w' ⟨st',G',q,hR'⟩=>?_) (h _ _ _ _ _ _ _ hR0)
 have hrs:fn.results.toList=rs:=by rw [hr]
 have fin:(HQ P st' rs).1∧K (st'.back st.tm.length st.pre o.dst (HQ P st' rs).2)→
  a'.defers=[]∧ ∃ v,(results fn a'.tmps).run P w'= .ok v w'∧dP ⟨w0,av,old,I',gv⟩ K (a.put o.dst v) w':=by
  intro ⟨q1,q2⟩
  rw [←hrs]at q1 q2
  obtain⟨v,k1,k2⟩:=Pw hR' (fn:=fn) q1
  refine⟨hR'.dfr,v,k1,_,G',q2,?_⟩
  exact(R.back hR.dfr rfl hR' hR.size.symm st.pre).put k2
 cases e<;>simp only [bq]at q<;>first | exact fin q | exact q.elim
end Go.PL
namespace Go.PL
open Go Go.RowKit Go.ChangeShapes Go.WideShapes
theorem OB {H:Type} {enc:TypeId×Value→H} {P:Program} (hl:laidOutB P=true) {W W':World} (hb:Below W.heap.size W W'):
 ∀ {ts:List TypeId} {vs:List Value} {ds:List (DataW H)} {ps:List MemPlace},(ts.all fun t=>P.readableRec t&&decide (t<P.types.size))=true→DataW.TrodAll enc P W 0 (fun _=>true) true ts vs ds ps→(∀ x∈ps,x.block<W.heap.size)→
   DataW.TrodAll enc P W' 0 (fun b=>decide (b<W.heap.size)) true ts vs ds ps
 | [],_,_,_,_,h,_=>by
   obtain⟨rfl,rfl,rfl⟩:=trodAll_nil h
   exact trodAll_mk0
 | t::ts,_,_,_,hr,h,hlt=>by
   obtain⟨v,vs1,d,ds1,a,b,rfl,rfl,rfl,h1,h2⟩:=trodAll_cons h
   simp only [List.all_cons,Bool.and_eq_true,decide_eq_true_eq]at hr
   exact⟨a,b,Below.trod hl hr.1.1 hr.1.2 h1 hb (fun x hx=>hlt x (by simp [hx])),OB hl hb hr.2 h2 (fun x hx=>hlt x (by simp [hx])),rfl⟩
theorem Ah.law {P:Program} {I:World→Prop} {f:FuncId} {xs:List V} (h:Ah P I f xs (· = .c (.bool true))) {W:World} (hI:I W) {args:Array Value} (ha:Bc W (im fun _=>False) xs args.toList):
 Calls P f args W fun e W'=>e= .returned (.bool true)∧Below W.heap.size W W':=by
 refine(h.run W args (fun _=>False) hI (fun _ h=>h.elim) ha).mono fun e W' ⟨v,r,he,hr,_,hv,hb⟩=>⟨?_,hb⟩
 subst hr
 simp only [Ap,As]at hv
 rw [he,hv]
end Go.PL
namespace Go.PL
open Go Go.RowKit Go.ChangeShapes Go.WideShapes
def QM (R:TypeId→List C→Prop):List TypeId→List (List C)→Prop
 | [],dss=>dss=[]
 | t::ts,dss=> ∃ ds r,dss=ds::r∧R t ds∧QM R ts r
def BF (P:Program):Nat→TypeId→List C→Prop
 | 0,_,_=>False
 | n+1,t,cs=>match P.underlying t with
   | some .bool => ∃ b,cs=[.bool b]
   | some (.int k)=> ∃ z,cs=[.int k z]∧(Lit.int k z).wf =true
   | some .string => ∃ s:List UInt8,cs=[.str s]∧s.length≤reachBytes
   | some (.slice e)=> ∃ dss:List (List C),cs=[.sl dss.length dss.flatten]∧dss.length*P.bytesOf e≤reachBytes∧ ∀ ds∈dss,BF P n e ds
   | some (.struct fs)=> ∃ dss:List (List C),cs=dss.flatten∧QM (BF P n) (fs.toList.map (·.type)) dss
   | some (.array m e)=> ∃ dss:List (List C),cs=dss.flatten∧dss.length=m∧ ∀ ds∈dss,BF P n e ds
   | some (.pointer e)=>cs=[.nilp]∨ ∃ ds,cs=[.iptr ds 0]∧BF P n e ds
   | some (.interface _)=>cs=[.niface]∨cs=[.held]
   | _=>False
theorem Jq: ∀ {dss:List (List C)},(∀ ds∈dss,Bq ds=true)→Bq dss.flatten=true
 | [],_=>rfl
 | ds::dss,h=>by rw [List.flatten_cons,IK,h ds (by simp),Jq (fun d hd=>h d (by simp [hd]))];rfl
theorem V5 {R:TypeId→List C→Prop} (hR: ∀ t ds,R t ds→Bq ds=true): ∀ {ts:List TypeId} {dss:List (List C)},QM R ts dss→ ∀ ds∈dss,Bq ds=true
 | [],dss,h,ds,hd=>by simp only [QM]at h;subst h;simp at hd
 | t::ts,dss,h,ds,hd=>by
   simp only [QM]at h
   obtain⟨d,r,rfl,h1,h2⟩:=h
   rcases List.mem_cons.1 hd with rfl | hd
   ·exact hR t _ h1
   ·exact V5 hR h2 ds hd
theorem Mj {P:Program}: ∀ {n:Nat} {t:TypeId} {cs:List C},BF P n t cs→Bq cs=true
 | 0,_,_,h=>h.elim
 | n+1,t,cs,h=>by
   unfold BF at h
   split at h
   ·obtain⟨b,rfl⟩:=h;rfl
   ·obtain⟨z,rfl,_⟩:=h;rfl
   ·obtain⟨s,rfl,_⟩:=h;rfl
   ·obtain⟨dss,rfl,_⟩:=h;rfl
   ·obtain⟨dss,rfl,h2⟩:=h;exact Jq (V5 (fun t ds h=>Mj h) h2)
   ·obtain⟨dss,rfl,_,h2⟩:=h;exact Jq (fun ds hd=>Mj (h2 ds hd))
   ·rcases h with rfl | ⟨ds,rfl,_⟩<;>rfl
   ·rcases h with rfl | rfl<;>rfl
   ·exact h.elim
section
variable {H:Type} {enc:TypeId×Value→H} {P:Program} {w:World} {spare:Nat→Bool}
theorem TM {G:B0}: ∀ {a b:List C} {u v:List Value},AD w G a u→AD w G b v→AD w G (a++b) (u++v)
 | [],_,[],_,_,h=>h
 | _::_,_,_::_,_,h,h'=>by simp only [AD]at h;simp only [List.cons_append,AD];exact⟨h.1,TM h.2 h'⟩
 | [],_,_::_,_,h,_=>by simp [AD]at h
 | _::_,_,[],_,h,_=>by simp [AD]at h
theorem Yn {G:B0}: ∀ {a:List C} {u:List Value},AD w G a u→a.length=u.length
 | [],[],_=>rfl
 | _::_,_::_,h=>by simp only [AD]at h;simp [Yn h.2]
 | [],_::_,h=>by simp [AD]at h
 | _::_,[],h=>by simp [AD]at h
theorem QN {G:B0} {b:Nat}: ∀ {cs:List C} {ds:List Value} {o:Nat},AD w G cs ds→(∀ j,j<ds.length→w.cell? ⟨b,o+j,none⟩=ds[j]?)→A0 w G cs b o
 | [],_,_,_,_=>by simp [A0]
 | c::cs,d::ds,o,h,hc=>by
   simp only [AD]at h
   simp only [A0]
   refine⟨⟨d,by simpa using hc 0 (by simp),h.1⟩,QN h.2 (fun j hj=>?_)⟩
   have:=hc (j+1) (by simp;omega)
   simpa [Nat.add_assoc,Nat.add_comm 1 j] using this
 | _::_,[],_,h,_=>by simp [AD]at h
theorem TN {G:B0} {b:Nat}: ∀ {cs cs':List C} {o:Nat},A0 w G cs b o→A0 w G cs' b (o+cs.length)→A0 w G (cs++cs') b o
 | [],_,_,_,h=>by simpa using h
 | c::cs,cs',o,h,h'=>by
   simp only [A0]at h
   simp only [List.cons_append,A0]
   exact⟨h.1,TN h.2 (by simpa [Nat.add_assoc,Nat.add_comm 1] using h')⟩
theorem Yo {a:Addr} {n:Nat} {cs:List Value} (hn:0<n) (h:w.cells? 0 a n=some cs):a=⟨a.block,a.off,none⟩∧a.block<w.heap.size∧cs.length=n∧ ∀ j,j<n→w.cell? ⟨a.block,a.off+j,none⟩=cs[j]? :=by
 obtain⟨_,hl,hc⟩:=World.cells?_some h
 have h0:=hc 0 hn
 obtain⟨b,o,sp⟩:=a
 have hsp:sp=none:=by
  cases sp with
  | none=>rfl
  | some x=>
    have e:cs[0]? =some cs[0]:=by rw [List.getElem?_eq_getElem]
    rw [e]at h0
    simp only [Addr.add,if_true]at h0
    unfold World.cell? at h0
    split at h0<;>simp at h0
 subst hsp
 refine⟨rfl,World.cells?_block h hn,hl,fun j hj=>?_⟩
 have:=hc j hj
 simp only [Addr.add]at this
 split at this
 ·rename_i hj0;subst hj0;exact this
 ·exact this
def gL (P:Program):Nat→List Field→Bool
 | _,[]=>true
 | o,f::fs=>f.offset==o&&gL P (o+P.cellsOf f.type) fs
def ep (P:Program):Nat→TypeId→Bool
 | 0,_=>false
 | n+1,t=>match P.underlying t with
   | some .bool =>P.cellsOf t==1
   | some (.int _)=>P.cellsOf t==1
   | some .string =>P.cellsOf t==1
   | some (.slice e)=>P.cellsOf t==1&&decide (0<P.cellsOf e)&&ep P n e
   | some (.struct fs)=>gL P 0 fs.toList&&P.cellsOf t==(fs.toList.map fun f=>P.cellsOf f.type).sum &&fs.toList.all (fun f=>ep P n f.type)
   | some (.array m e)=>P.cellsOf t==m*P.cellsOf e&&ep P n e
   | some (.pointer e)=>P.cellsOf t==1&&decide (0<P.cellsOf e)&&ep P n e
   | some (.interface _)=>P.cellsOf t==1
   | _=>false
variable {G:B0} (hG: ∀ b,b<w.heap.size→ ¬G.wr b)
def br (enc:TypeId×Value→H) (P:Program) (w:World) (spare:Nat→Bool) (G:B0) (n:Nat) (t:TypeId):Prop:=
 ∀ (fuel:Nat) (vs:List Value) (x:DataW H×List MemPlace),DataW.trod enc P w 0 spare true fuel t vs=some x→(x.1.weights P t).all (· ≤reachBytes)=true→ ∃ cs,AD w G cs vs∧BF P n t cs∧vs.length=P.cellsOf t
theorem RM {n:Nat}: ∀ {fs:List Field} {o m:Nat} {vs:List Value} {xs:List (DataW H×List MemPlace)},gL P o fs=true→vs.length=o+(fs.map fun f=>P.cellsOf f.type).sum →xs.length=fs.length→
 (∀ f∈fs,br enc P w spare G n f.type)→
 (∀ (i:Nat) (f:Field),fs[i]? =some f→DataW.trod enc P w 0 spare true m f.type ((vs.drop f.offset).take (P.cellsOf f.type))=xs[i]?)→
 (DataW.weightsEach P (fs.map (·.type)) (xs.map (·.1))).all (· ≤reachBytes)=true→ ∃ dss:List (List C),AD w G dss.flatten (vs.drop o)∧QM (BF P n) (fs.map (·.type)) dss
 | [],o,m,vs,xs,_,hl,_,_,_,_=>by
   refine⟨[],?_,rfl⟩
   have:vs.drop o=[]:=by simp at hl;simp;omega
   rw [this];simp [AD]
 | f::fs,o,m,vs,xs,ht,hl,hx,hr,hf,hw=>by
   simp only [gL,Bool.and_eq_true,beq_iff_eq]at ht
   obtain⟨h1,h2⟩:=ht
   cases xs with
   | nil=>simp at hx
   | cons x xs=>
     simp only [List.map_cons,List.sum_cons]at hl
     simp only [List.map_cons,DataW.weightsEach,List.all_append,Bool.and_eq_true]at hw
     have h0:=hf 0 f rfl
     simp only [List.getElem?_cons_zero]at h0
     obtain⟨cs,q1,q2,q3⟩:=hr f (by simp) m _ x h0 hw.1
     obtain⟨dss,k1,k2⟩:=RM (o:=o+P.cellsOf f.type) (m:=m) (vs:=vs) (xs:=xs) h2 (by omega) (by simpa using hx) (fun g hg=>hr g (by simp [hg]))
      (fun i g hg=>by have:=hf (i+1) g (by simpa using hg);simpa using this) hw.2
     refine⟨cs::dss,?_,cs,dss,rfl,q2,k2⟩
     have e:vs.drop o=(vs.drop o).take (P.cellsOf f.type)++vs.drop (o+P.cellsOf f.type):=by rw [←List.drop_drop,List.take_append_drop]
     rw [e,List.flatten_cons]
     rw [h1]at q1
     exact TM q1 k1
theorem TO {n e:Nat} (hr:br enc P w spare G n e): ∀ (k o m:Nat) (vs:List Value) (xs:List (DataW H×List MemPlace)),vs.length=o+k*P.cellsOf e→xs.length=k→
 (∀ i,i<k→DataW.trod enc P w 0 spare true m e ((vs.drop (o+i*P.cellsOf e)).take (P.cellsOf e))=xs[i]?)→
 (DataW.weightsAll P e (xs.map (·.1))).all (· ≤reachBytes)=true→ ∃ dss:List (List C),AD w G dss.flatten (vs.drop o)∧dss.length=k∧ ∀ ds∈dss,BF P n e ds
 | 0,o,m,vs,xs,hl,_,_,_=>by
   refine⟨[],?_,rfl,by simp⟩
   have:vs.drop o=[]:=by simp;omega
   rw [this];simp [AD]
 | k+1,o,m,vs,xs,hl,hx,hf,hw=>by
   cases xs with
   | nil=>simp at hx
   | cons x xs=>
     simp only [List.map_cons,DataW.weightsAll,List.all_append,Bool.and_eq_true]at hw
     have h0:=hf 0 (by omega)
     simp only [Nat.zero_mul,Nat.add_zero,List.getElem?_cons_zero]at h0
     obtain⟨cs,q1,q2,q3⟩:=hr m _ x h0 hw.1
     obtain⟨dss,k1,k2,k3⟩:=TO hr k (o+P.cellsOf e) m vs xs (by rw [hl,Nat.add_mul];omega) (by simpa using hx)
      (fun i hi=>by
       have:=hf (i+1) (by omega)
       simp only [List.getElem?_cons_succ]at this
       rw [←this]
       congr 3
       rw [Nat.add_mul];omega) hw.2
     refine⟨cs::dss,?_,by simp [k2],?_⟩
     ·have e':vs.drop o=(vs.drop o).take (P.cellsOf e)++vs.drop (o+P.cellsOf e):=by rw [←List.drop_drop,List.take_append_drop]
      rw [e',List.flatten_cons]
      exact TM q1 k1
     ·intro ds hds
      rcases List.mem_cons.1 hds with rfl | hd
      ·exact q2
      ·exact k3 ds hd
theorem TP {n e:Nat} (hpos:0<P.cellsOf e) (hr:br enc P w spare G n e): ∀ (k o m:Nat) (a:Addr) (xs:List (DataW H×List MemPlace)),xs.length=k→
 (∀ i,i<k→(w.cells? 0 (a.add (o+i*P.cellsOf e)) (P.cellsOf e)).bind (DataW.trod enc P w 0 spare true m e)=xs[i]?)→
 (DataW.weightsAll P e (xs.map (·.1))).all (· ≤reachBytes)=true→
 ∃ dss:List (List C),dss.length=k∧(∀ ds∈dss,BF P n e ds)∧(0<k→a.block<w.heap.size∧(o=0→a=⟨a.block,a.off,none⟩)∧A0 w G dss.flatten a.block (a.off+o))
 | 0,o,m,a,xs,_,_,_=>⟨[],rfl,by simp,fun h=>by omega⟩
 | k+1,o,m,a,xs,hx,hf,hw=>by
   cases xs with
   | nil=>simp at hx
   | cons x xs=>
     simp only [List.map_cons,DataW.weightsAll,List.all_append,Bool.and_eq_true]at hw
     have h0:=hf 0 (by omega)
     simp only [Nat.zero_mul,Nat.add_zero,List.getElem?_cons_zero,Option.bind_eq_some_iff]at h0
     obtain⟨vs,hvs,htr⟩:=h0
     obtain⟨cs,q1,q2,q3⟩:=hr m _ x htr hw.1
     obtain⟨c1,c2,c3,c4⟩:=Yo hpos hvs
     obtain⟨dss,k2,k3,k4⟩:=TP hpos hr k (o+P.cellsOf e) m a xs (by simpa using hx)
      (fun i hi=>by
       have:=hf (i+1) (by omega)
       simp only [List.getElem?_cons_succ]at this
       rw [←this]
       congr 3
       rw [Nat.add_mul];omega) hw.2
     have hblk:(a.add o).block =a.block:=by unfold Addr.add;split<;>rfl
     have hoff:(a.add o).off =a.off+o:=by
      unfold Addr.add
      split
      ·rename_i q;rw [q];rfl
      ·rfl
     refine⟨cs::dss,by simp [k2],?_,fun _=>⟨by rw [←hblk];exact c2,fun ho=>?_,?_⟩⟩
     ·intro ds hds
      rcases List.mem_cons.1 hds with rfl | hd
      ·exact q2
      ·exact k3 ds hd
     ·subst ho
      have e:a.add 0=a:=rfl
      rw [e]at c1
      exact c1
     ·rw [List.flatten_cons]
      rw [hblk,hoff]at c4
      have hlen:cs.length=P.cellsOf e:=(Yn q1).trans q3
      refine TN (QN q1 (fun j hj=>c4 j (by omega))) ?_
      by_cases hk:0<k
      ·have:=(k4 hk).2.2
       rw [hlen]
       simpa [Nat.add_assoc] using this
      ·have:dss=[]:=List.length_eq_zero_iff.1 (by omega)
       subst this
       simp [A0]
theorem TQ {c:C} {v:Value} (h:As w G c v):AD w G [c] [v]:=by simp only [AD];exact⟨h,trivial⟩
theorem bt {len:Nat} {cs:List C} {v:Value} (hp:Bq cs=true) (h: ∃ a cap,v= .slice a len cap∧len≤cap∧cap≤maxLen∧(len=0→cs=[])∧
 (len=0∨ ∃ b off,a=some ⟨b,off,none⟩∧ ¬G.wr b∧b<w.heap.size∧A0 w G cs b off)):As w G (.sl len cs) v:=by unfold As;exact⟨hp,h⟩
theorem cW {cs:List C} {off:Nat} {v:Value} (hp:Bq cs=true) (h: ∃ b o,v= .pointer (some ⟨b,o+off,none⟩)∧ ¬G.wr b∧b<w.heap.size∧A0 w G cs b o):As w G (.iptr cs off) v:=by unfold As;exact⟨hp,h⟩
include hG in
theorem LU: ∀ (n:Nat) (t:TypeId),ep P n t=true→br enc P w spare G n t
 | 0,t,h=>by simp [ep]at h
 | n+1,t,h=>by
   intro fuel vs x hx hw
   unfold ep at h
   unfold BF
   split at h
   ·rename_i ht
    obtain⟨b,rfl,rfl⟩:=DataW.trod_bool ht hx
    exact⟨[.bool b],by simp [AD,As],by exact⟨b,rfl⟩,by rw [beq_iff_eq.1 h];rfl⟩
   ·rename_i k ht
    obtain⟨z,rfl,rfl,hwf⟩:=DataW.trod_int ht hx
    exact⟨[.int k z],by simp [AD,As],by exact⟨z,rfl,hwf⟩,by rw [beq_iff_eq.1 h];rfl⟩
   ·rename_i ht
    obtain⟨s,rfl,rfl,hs⟩:=DataW.trod_string ht hx
    simp only [DataW.weights,List.all_cons,List.all_nil,Bool.and_true,decide_eq_true_eq]at hw
    exact⟨[.str s.data.toList],by simp [AD,As],by exact⟨_,rfl,hw⟩,by rw [beq_iff_eq.1 h];rfl⟩
   ·rename_i e ht
    simp only [Bool.and_eq_true,decide_eq_true_eq,beq_iff_eq]at h
    rcases DataW.trod_slice ht hx with ⟨rfl,rfl⟩ | ⟨a,len,cap,elems,rest,m,rfl,rfl,rfl,_,hle,hmax,hlen,hel,_,_⟩
    ·refine⟨[.sl 0 []],?_,?_,by rw [h.1.1];rfl⟩
     ·exact TQ (bt rfl ⟨none,0,rfl,Nat.le_refl _,Nat.zero_le _,fun _=>rfl, .inl rfl⟩)
     ·exact⟨[],rfl,by simp,by simp⟩
    ·simp only [DataW.weights,ht,List.all_cons,List.all_append,Bool.and_eq_true,decide_eq_true_eq,List.length_map]at hw
     obtain⟨dss,k2,k3,k4⟩:=TP h.1.2 (LU n e h.2) len 0 m a elems hlen (fun i hi=>by rw [Nat.zero_add];exact hel i hi) hw.2.1
     refine⟨[.sl dss.length dss.flatten],?_,?_,by rw [h.1.1];rfl⟩
     ·refine TQ (bt (Jq (fun ds hd=>Mj (k3 ds hd))) ⟨some a,cap,by rw [k2],by omega,hmax,fun h0=>by rw [List.length_eq_zero_iff.1 h0];rfl,?_⟩)
      rw [k2]
      by_cases hk:0<len
      ·obtain⟨q1,q2,q3⟩:=k4 hk
       exact .inr ⟨a.block,a.off,by rw [←q2 rfl],hG _ q1,q1,q3⟩
      ·exact .inl (by omega)
     ·refine⟨dss,rfl,?_,k3⟩
      refine Nat.le_trans (Nat.mul_le_mul_right _ ?_) hw.1
      omega
   ·rename_i fs ht
    simp only [Bool.and_eq_true,beq_iff_eq,List.all_eq_true]at h
    obtain⟨⟨h1,h2⟩,h3⟩:=h
    obtain⟨xs,m,rfl,rfl,hl,hx2,hf⟩:=DataW.trod_struct ht hx
    simp only [DataW.weights,ht]at hw
    obtain⟨dss,k1,k2⟩:=RM (fs:=fs.toList) (o:=0) (m:=m) (vs:=vs) (xs:=xs) (enc:=enc) (spare:=spare) (n:=n) h1 (by rw [hl,h2];simp) (by simpa using hx2) (fun f hf=>LU n f.type (h3 f hf))
     (fun i f hi=>hf i f (by simpa using hi)) hw
    exact⟨dss.flatten,by simpa using k1,by exact⟨dss,rfl,k2⟩,hl⟩
   ·rename_i m e ht
    simp only [Bool.and_eq_true,beq_iff_eq]at h
    obtain⟨xs,q,rfl,rfl,hl,hx2,hf⟩:=DataW.trod_array ht hx
    simp only [DataW.weights,ht]at hw
    obtain⟨dss,k1,k2,k3⟩:=TO (LU n e h.2) m 0 q vs xs (by rw [hl,h.1];simp) hx2 (fun i hi=>by rw [Nat.zero_add];exact hf i hi) hw
    exact⟨dss.flatten,by simpa using k1,by exact⟨dss,rfl,k2,k3⟩,hl⟩
   ·rename_i e ht
    simp only [Bool.and_eq_true,decide_eq_true_eq,beq_iff_eq]at h
    rcases DataW.trod_pointer ht hx with ⟨rfl,rfl⟩ | ⟨a,cs',y,m,rfl,rfl,rfl,hc,hy⟩
    ·exact⟨[.nilp],by simp [AD,As],by exact .inl rfl,by rw [h.1.1];rfl⟩
    ·simp only [DataW.weights,ht]at hw
     obtain⟨ds,q1,q2,q3⟩:=LU n e h.2 m cs' y hy hw
     obtain⟨c1,c2,c3,c4⟩:=Yo h.1.2 hc
     refine⟨[.iptr ds 0],?_,by exact .inr ⟨ds,rfl,q2⟩,by rw [h.1.1];rfl⟩
     exact TQ (cW (Mj q2) ⟨a.block,a.off,by rw [Nat.add_zero, ←c1],hG _ c2,c2,QN q1 (fun j hj=>c4 j (by omega))⟩)
   ·rename_i ms ht
    cases fuel with
    | zero=>simp [DataW.trod]at hx
    | succ fuel=>
      unfold DataW.trod at hx
      rw [ht]at hx
      split at hx<;>simp_all
      ·exact⟨[.niface],by simp [AD,As], .inl rfl⟩
      ·exact⟨[.held],by simp [AD,As], .inr rfl⟩
   ·cases h
end
end Go.PL
namespace Go.PL
open Go Go.RowKit
section
variable {P:Program} {t e:TypeId} {n:Nat} {cs:List C}
theorem ZZ (hu:P.underlying t=some .bool) (h:BF P n t cs): ∃ b,cs=[.bool b]∧True:=by
 cases n with
 | zero=>exact h.elim
 | succ n=>simp only [BF,hu]at h;obtain⟨b,h⟩:=h;exact⟨b,h,trivial⟩
theorem cX {k:IntKind} (hu:P.underlying t=some (.int k)) (h:BF P n t cs): ∃ z,cs=[.int k z]∧(Lit.int k z).wf =true:=by
 cases n with
 | zero=>exact h.elim
 | succ n=>simpa only [BF,hu] using h
theorem cY (hu:P.underlying t=some .string) (h:BF P n t cs): ∃ s:List UInt8,cs=[.str s]∧s.length≤reachBytes:=by
 cases n with
 | zero=>exact h.elim
 | succ n=>simpa only [BF,hu] using h
theorem TR {α:Type} {R:List C→Prop} {enc:α→List C} {ok:α→Prop} (hd: ∀ ds,R ds→ ∃ x,ds=enc x∧ok x): ∀ {dss:List (List C)},(∀ ds∈dss,R ds)→ ∃ l:List α,dss=l.map enc∧ ∀ y∈l,ok y
 | [],_=>⟨[],rfl,by simp⟩
 | ds::dss,h=>by
   obtain⟨x,h1,h2⟩:=hd ds (h ds (by simp))
   obtain⟨l,h3,h4⟩:=TR hd (fun d hd'=>h d (by simp [hd']): ∀ d∈dss,R d)
   refine⟨x::l,by rw [h1,h3];rfl,fun y hy=>?_⟩
   rcases List.mem_cons.1 hy with rfl | hy
   ·exact h2
   ·exact h4 y hy
theorem eq {α:Type} {enc:α→List C} {ok:α→Prop} {b:Nat} (hu:P.underlying t=some (.slice e)) (hb:P.bytesOf e=b) (hd: ∀ n ds,BF P n e ds→ ∃ x,ds=enc x∧ok x) (h:BF P n t cs):
 ∃ l:List α,cs=[.sl l.length (l.flatMap enc)]∧l.length*b≤reachBytes∧ ∀ y∈l,ok y:=by
 cases n with
 | zero=>exact h.elim
 | succ n=>
   simp only [BF,hu]at h
   obtain⟨dss,h1,h2,h3⟩:=h
   obtain⟨l,rfl,h5⟩:=TR (hd n) h3
   rw [hb,List.length_map]at h2
   exact⟨l,by rw [h1,List.length_map,List.flatMap_def],h2,h5⟩
theorem Yp {α:Type} (f:α→C): ∀ l:List α,l.flatMap (fun x=>[f x])=l.map f
 | []=>rfl
 | a::l=>by rw [List.flatMap_cons,Yp f l];rfl
theorem Bs {fs:Array Field} {ts:List TypeId} (hu:P.underlying t=some (.struct fs)) (hts:fs.toList.map (·.type)=ts) (h:BF P n t cs): ∃ (m:Nat) (dss:List (List C)),cs=dss.flatten∧QM (BF P m) ts dss:=by
 cases n with
 | zero=>exact h.elim
 | succ n=>simp only [BF,hu,hts]at h;exact⟨n,h⟩
theorem V6 {α:Type} {enc:α→List C} {n:Nat} (hn: ∀ x,(enc x).length =n) (l:List α) {i:Nat} (d:α) (hi:i<l.length) (j m:Nat) (hj:j+m≤n):
 ((l.flatMap enc).drop (i*n+j)).take m=((enc (l.getD i d)).drop j).take m:=by
 induction l generalizing i with
 | nil=>simp at hi
 | cons a l ih=>
   cases i with
   | zero=>
     simp only [List.flatMap_cons,Nat.zero_mul,Nat.zero_add,List.getD_cons_zero]
     rw [List.drop_append_of_le_length (by rw [hn];omega),List.take_append_of_le_length (by rw [List.length_drop,hn];omega)]
   | succ i=>
     have:=ih (i:=i) (by simpa using hi)
     rw [List.getD_cons_succ, ←this,List.flatMap_cons]
     have e:(i+1)*n+j=(enc a).length +(i*n+j):=by rw [hn,Nat.add_mul];omega
     rw [e,List.drop_append,List.drop_of_length_le (by omega)]
     simp
theorem er {α:Type} {enc:α→List C} {n:Nat} (hn: ∀ x,(enc x).length =n) (l:List α) {i:Nat} (d:α) (hi:i<l.length) (j:Nat) (hj:j<n):
 (l.flatMap enc).getD (i*n+j) C.any=(enc (l.getD i d)).getD j C.any:=by
 have h:=V6 hn l d hi j 1 (by omega)
 have e: ∀ (m:List C) (k:Nat),m.getD k C.any=((m.drop k).take 1).getD 0 C.any:=by
  intro m k
  simp [List.getD_eq_getElem?_getD,List.getElem?_take,List.getElem?_drop]
 rw [e,h, ←e]
theorem JA {α:Type} {enc:α→List C} {n:Nat} (hn: ∀ x,(enc x).length =n): ∀ l:List α,(l.flatMap enc).length =l.length*n
 | []=>by simp
 | a::l=>by rw [List.flatMap_cons,List.length_append,hn,JA hn l,List.length_cons,Nat.add_mul];omega
end
end Go.PL
namespace Go.PL
open Go Go.RowKit
def BA:List Prop→Prop
 | []=>True
 | p::ps=>p∧BA ps
theorem Av: ∀ {a b:List Prop},BA (a++b)↔BA a∧BA b
 | [],b=>by simp [BA]
 | p::a,b=>by simp only [List.cons_append,BA,Av (a:=a) (b:=b),and_assoc]
abbrev CV:=Option (List Prop×V)
def S1 {α:Type} (b:Bool) (r:α):Option α:=match b with
 | true=>some r
 | false=>none
theorem CD {α:Type} {b:Bool} {r x:α} (h:S1 b r=some x):b=true∧r=x:=by
 cases b<;>simp [S1]at h;exact⟨rfl,h⟩
def CF (st:St) (g:Bool) (x:Operand):List Prop×V:=
 match st.ev x with
 | .g c v=>([g=true→c=true],v)
 | v=>([],v)
theorem Px {st:St} {g:Bool} {x:Operand} (hl:BA (CF st g x).1):(st.arg g x).1∧(st.arg g x).2=(CF st g x).2:=by
 unfold CF at *
 unfold St.arg
 generalize st.ev x=e at *
 cases e with
 | g c v=>exact⟨hl.1,rfl⟩
 | c _=>exact⟨trivial,rfl⟩
 | agg _=>exact⟨trivial,rfl⟩
 | tup _=>exact⟨trivial,rfl⟩
 | undef=>exact⟨trivial,rfl⟩
def FP (st:St) (g:Bool):List Operand→List Prop×List V
 | []=>([],[])
 | x::xs=>((CF st g x).1++(FP st g xs).1,(CF st g x).2::(FP st g xs).2)
theorem JB {st:St} {g:Bool}: ∀ {xs:List Operand},BA (FP st g xs).1→(st.args g xs).1∧(st.args g xs).2=(FP st g xs).2
 | [],_=>⟨trivial,rfl⟩
 | x::xs,hl=>by
   obtain⟨h1,h2⟩:=Av.1 hl
   have a:=Px (st:=st) (g:=g) (x:=x) h1
   have b:=JB (st:=st) (g:=g) (xs:=xs) h2
   simp only [St.args,FP]
   exact⟨⟨a.1,b.1⟩,by rw [a.2,b.2]⟩
def W6:V→Option (Option Bool×Bool)
 | .c (.bool q)=>some (none,q)
 | .g c (.c (.bool q))=>some (some c,q)
 | _=>none
def eu (p:Prop):Option Bool→List Prop
 | none=>[]
 | some c=>[p→c=true]
theorem RN {v:V} {c:Option Bool} {q:Bool} (h:W6 v=some (c,q)):QF v=some (c.getD true,q):=by
 unfold W6 at h
 split at h<;>simp at h
 ·obtain⟨rfl,rfl⟩:=h;rfl
 ·obtain⟨rfl,rfl⟩:=h;rfl
theorem TS {p:Prop} {c:Option Bool} (h:BA (eu p c)):p→c.getD true=true:=by
 cases c with
 | none=>intro _;rfl
 | some c=>exact h.1
def jh (l:List Prop) (p:Bool) (a b:V):CV:=
 match W6 a,W6 b with
 | some (ca,q),some (cb,r)=>some (l++(eu (p=true) ca++eu (p=false) cb), .c (.bool (if p then q else r)))
 | _,_=>none
def bu (P:Program) (t:TypeId) (st:St) (l:List Prop):V→CV
 | .c (.ptr id off)=>match SW P t,st.look id with
   | some (ag,n),some e=>S1 (Nat.ble (off+n) e.cs.length&&(ag||Nat.blt 0 n)) (l,Me ag off n e.cs)
   | _,_=>none
 | .c (.iptr cs off)=>match SW P t with
   | some (ag,n)=>S1 (Nat.ble (off+n) cs.length&&(ag||Nat.blt 0 n)) (l,Me ag off n cs)
   | _=>none
 | _=>none
theorem RO {P:Program} {t:TypeId} {st:St} {l l':List Prop} {x v:V} (h:bu P t st l x=some (l',v)):l=l'∧(KB P t st x).1∧(KB P t st x).2=v:=by
 unfold bu at h
 unfold KB
 split at h
 ·split at h
  ·rename_i ag n e h1 h2
   obtain⟨hb,hr⟩:=CD h
   simp only [Prod.mk.injEq]at hr
   simp only [Bool.and_eq_true,Nat.ble_eq,Bool.or_eq_true,Nat.blt_eq]at hb
   simp only [h1,h2]
   exact⟨hr.1,hb,hr.2⟩
  ·cases h
 ·split at h
  ·rename_i ag n h1
   obtain⟨hb,hr⟩:=CD h
   simp only [Prod.mk.injEq]at hr
   simp only [Bool.and_eq_true,Nat.ble_eq,Bool.or_eq_true,Nat.blt_eq]at hb
   simp only [h1]
   exact⟨hr.1,hb,hr.2⟩
  ·cases h
 ·cases h
def ew (P:Program) (t:TypeId) (st:St) (l:List Prop) (u:V):V→CV
 | .c (.ptr id off)=>match SW P t,st.look id with
   | some (ag,n),some e=>S1 (ag||Nat.blt 0 n) (l++[off+n≤e.cs.length∧Me ag off n e.cs=u],u)
   | _,_=>none
 | .c (.iptr cs off)=>match SW P t with
   | some (ag,n)=>S1 (ag||Nat.blt 0 n) (l++[off+n≤cs.length∧Me ag off n cs=u],u)
   | _=>none
 | _=>none
theorem Yq {P:Program} {t:TypeId} {st:St} {l l':List Prop} {x u v:V} (h:ew P t st l u x=some (l',v)) (hl:BA l'):BA l∧(KB P t st x).1∧(KB P t st x).2=v:=by
 unfold ew at h
 unfold KB
 split at h
 ·split at h
  ·rename_i ag n e h1 h2
   obtain⟨hb,hr⟩:=CD h
   simp only [Prod.mk.injEq]at hr
   obtain⟨rfl,rfl⟩:=hr
   obtain⟨q1,q2,_⟩:=Av.1 hl
   simp only [Bool.or_eq_true,Nat.blt_eq]at hb
   simp only [h1,h2]
   exact⟨q1,⟨q2.1,hb⟩,q2.2⟩
  ·cases h
 ·split at h
  ·rename_i ag n h1
   obtain⟨hb,hr⟩:=CD h
   simp only [Prod.mk.injEq]at hr
   obtain⟨rfl,rfl⟩:=hr
   obtain⟨q1,q2,_⟩:=Av.1 hl
   simp only [Bool.or_eq_true,Nat.blt_eq]at hb
   simp only [h1]
   exact⟨q1,⟨q2.1,hb⟩,q2.2⟩
  ·cases h
 ·cases h
def ov:BinOp→IntKind→IntKind→Bool
 | .shl,_,_ | .shr,_,_=>true
 | _,k,k'=>k==k'
theorem ey {op:BinOp} {k k':IntKind} (h:ov op k k'=true):LP op k k':=by
 unfold ov at h
 unfold LP
 cases op<;>simp_all
def ke (op:BinOp) (b:Int):List Prop:=
 match op with
 | .quo | .rem =>[b ≠ 0]
 | .shl | .shr =>[0≤b]
 | _=>[]
theorem cZ {op:BinOp} {k:IntKind} {a b:Int} (h:BA (ke op b)):(Nd op k a b).1:=by
 cases op<;>simp_all [ke,Nd,BA]
def kf (op:BinOp) (a b:List UInt8):Option (List Prop):=
 match op with
 | .add =>some [a.length+b.length≤maxLen]
 | .eql | .neq | .lss | .leq | .gtr | .geq =>some []
 | _=>none
theorem c8 {op:BinOp} {a b:List UInt8} {l:List Prop} (h:kf op a b=some l) (hl:BA l):(Nf op a b).1:=by
 cases op<;>simp_all [kf,Nf]<;>(subst h;exact hl.1)
def kg (P:Program) (op:BinOp) (t:TypeId) (kc:Bool) (l:List Prop):V→V→CV
 | .c (.int k a), .c (.int k' b)=>S1 (ov op k k') (l++ke op b, .c (Nd op k a b).2)
 | .c (.str a), .c (.str b)=>match kf op a b with
   | some c=>some (l++c, .c (Nf op a b).2)
   | none=>none
 | .agg cs, .agg ds=>match op with
   | .eql =>S1 (cM P t cs ds) (l, .c (.bool (EZ cs ds)))
   | .neq =>S1 (cM P t cs ds) (l, .c (.bool !(EZ cs ds)))
   | _=>none
 | x,y=>some (l++[(WP P op t kc x y).1],(WP P op t kc x y).2)
def Z0 (P:Program) (op:BinOp) (t:TypeId) (k:Bool) (x y:V):Prop×V:=
 match x,y with
 | .agg cs, .agg ds=>cN P op t cs ds
 | x,y=>WP P op t k x y
theorem Z1 {P:Program} {op:BinOp} {t:TypeId} {kc:Bool} {l l':List Prop} {x y v:V} (h:kg P op t kc l x y=some (l',v)) (hl:BA l'):BA l∧(Z0 P op t kc x y).1∧(Z0 P op t kc x y).2=v:=by
 unfold kg at h
 split at h
 ·obtain⟨hb,hr⟩:=CD h
  simp only [Prod.mk.injEq]at hr
  obtain⟨rfl,rfl⟩:=hr
  obtain⟨q1,q2⟩:=Av.1 hl
  exact⟨q1,⟨ey hb,cZ q2⟩,rfl⟩
 ·split at h
  ·rename_i c hc
   simp only [Option.some.injEq,Prod.mk.injEq]at h
   obtain⟨rfl,rfl⟩:=h
   obtain⟨q1,q2⟩:=Av.1 hl
   exact⟨q1,c8 hc q2,rfl⟩
  ·cases h
 ·split at h
  ·obtain⟨hb,hr⟩:=CD h
   simp only [Prod.mk.injEq]at hr
   exact⟨hr.1▸hl,hb,hr.2⟩
  ·obtain⟨hb,hr⟩:=CD h
   simp only [Prod.mk.injEq]at hr
   exact⟨hr.1▸hl,hb,hr.2⟩
  ·cases h
 ·rename_i hne
  simp only [Option.some.injEq,Prod.mk.injEq]at h
  obtain⟨rfl,rfl⟩:=h
  obtain⟨q1,q2⟩:=Av.1 hl
  have e:Z0 P op t kc x y=WP P op t kc x y:=by
   unfold Z0
   split<;>first | rfl | simp_all
  rw [e]
  exact⟨q1,q2.1,rfl⟩
def kh (P:Program) (t:TypeId) (st:St) (l:List Prop) (x y:V):CV:=
 match y with
 | .c (.int _ i)=>match x with
   | .c (.sl len cs)=>match JV P t with
     | some (_,n)=>some (l++[0≤i∧i<len], .c (.iptr cs (i.toNat*n)))
     | none=>none
   | .c (.osl id)=>match JV P t,st.look id with
     | some (_,n),some e=>match e.row with
       | some (_,_,len)=>some (l++[0≤i∧i<len], .c (.ptr id (i.toNat*n)))
       | none=>none
     | _,_=>none
   | .c (.bsl id off len)=>match JV P t with
     | some (_,n)=>some (l++[0≤i∧i<len], .c (.ptr id (off+i.toNat*n)))
     | none=>none
   | .c (.ptr id off)=>match Lb P t with
     | some (k,_,n)=>some (l++[0≤i∧i<k], .c (.ptr id (off+i.toNat*n)))
     | none=>none
   | .c (.iptr cs off)=>match Lb P t with
     | some (k,_,n)=>some (l++[0≤i∧i<k], .c (.iptr cs (off+i.toNat*n)))
     | none=>none
   | _=>none
 | _=>none
theorem Z2 {P:Program} {t:TypeId} {st:St} {l l':List Prop} {x y v:V} (h:kh P t st l x y=some (l',v)) (hl:BA l'):BA l∧(GQ P t st x y).1∧(GQ P t st x y).2=v:=by
 unfold kh at h
 unfold GQ
 split at h
 ·split at h
  ·split at h
   ·rename_i h1
    simp only [Option.some.injEq,Prod.mk.injEq]at h
    obtain⟨rfl,rfl⟩:=h
    obtain⟨q1,q2,_⟩:=Av.1 hl
    simp only [h1];exact⟨q1,q2,trivial⟩
   ·cases h
  ·split at h
   ·rename_i h1 h2
    split at h
    ·rename_i h3
     simp only [Option.some.injEq,Prod.mk.injEq]at h
     obtain⟨rfl,rfl⟩:=h
     obtain⟨q1,q2,_⟩:=Av.1 hl
     simp only [h1,h2,h3];exact⟨q1,q2,trivial⟩
    ·cases h
   ·cases h
  ·split at h
   ·rename_i h1
    simp only [Option.some.injEq,Prod.mk.injEq]at h
    obtain⟨rfl,rfl⟩:=h
    obtain⟨q1,q2,_⟩:=Av.1 hl
    simp only [h1];exact⟨q1,q2,trivial⟩
   ·cases h
  ·split at h
   ·rename_i h1
    simp only [Option.some.injEq,Prod.mk.injEq]at h
    obtain⟨rfl,rfl⟩:=h
    obtain⟨q1,q2,_⟩:=Av.1 hl
    simp only [h1];exact⟨q1,q2,trivial⟩
   ·cases h
  ·split at h
   ·rename_i h1
    simp only [Option.some.injEq,Prod.mk.injEq]at h
    obtain⟨rfl,rfl⟩:=h
    obtain⟨q1,q2,_⟩:=Av.1 hl
    simp only [h1];exact⟨q1,q2,trivial⟩
   ·cases h
  ·cases h
 ·cases h
def ki (P:Program) (t:TypeId) (l:List Prop) (x:V) (lo hi:Option V):CV:=
 match x with
 | .c (.str s)=>match WV s.length lo hi with
   | some (a,h)=>S1 (KA P t) (l++[0≤a∧a≤h∧h≤s.length], .c (.str ((s.drop a.toNat).take (h.toNat - a.toNat))))
   | none=>none
 | .c (.sl len cs)=>match JV P t,WV len lo hi with
   | some (_,n),some (a,h)=>some (l++[0≤a∧a≤h∧h≤len,cs.length=len*n], .c (.sl (h.toNat - a.toNat) ((cs.drop (a.toNat*n)).take ((h.toNat - a.toNat)*n))))
   | _,_=>none
 | .c (.ptr id off)=>match Lb P t with
   | some (k,_,n)=>match WV k lo hi with
     | some (a,h)=>some (l++[0≤a∧a<k∧a≤h∧h≤k], .c (.bsl id (off+a.toNat*n) (h.toNat - a.toNat)))
     | none=>none
   | none=>none
 | _=>none
theorem Z3 {P:Program} {t:TypeId} {l l':List Prop} {x v:V} {lo hi:Option V} (h:ki P t l x lo hi=some (l',v)) (hl:BA l'):BA l∧(Mf P t x lo hi).1∧(Mf P t x lo hi).2=v:=by
 unfold ki at h
 unfold Mf
 split at h
 ·split at h
  ·rename_i a hh h1
   obtain⟨hb,hr⟩:=CD h
   simp only [Prod.mk.injEq]at hr
   obtain⟨rfl,rfl⟩:=hr
   obtain⟨q1,q2,_⟩:=Av.1 hl
   simp only [h1];exact⟨q1,⟨hb,q2⟩,trivial⟩
  ·cases h
 ·split at h
  ·rename_i h1 h2
   simp only [Option.some.injEq,Prod.mk.injEq]at h
   obtain⟨rfl,rfl⟩:=h
   obtain⟨q1,q2,q3,_⟩:=Av.1 hl
   simp only [h1,h2];exact⟨q1,⟨q2.1,q2.2.1,q2.2.2,q3⟩,trivial⟩
  ·cases h
 ·split at h
  ·rename_i h1
   split at h
   ·rename_i h2
    simp only [Option.some.injEq,Prod.mk.injEq]at h
    obtain⟨rfl,rfl⟩:=h
    obtain⟨q1,q2,_⟩:=Av.1 hl
    simp only [h1,h2];exact⟨q1,q2,trivial⟩
   ·cases h
  ·cases h
 ·cases h
def W7 (st:St) (g:Bool):Option Operand→List Prop×Option V
 | none=>([],none)
 | some x=>((CF st g x).1,some (CF st g x).2)
theorem gM {st:St} {g:Bool}: ∀ {x:Option Operand},BA (W7 st g x).1→(HO st g x).1∧(HO st g x).2=(W7 st g x).2
 | none,_=>⟨trivial,rfl⟩
 | some x,hl=>by
   have:=Px (st:=st) (g:=g) (x:=x) hl
   exact⟨this.1,by simp only [HO,W7,this.2]⟩
def kj (P:Program) (s:TypeId) (f:Nat) (l:List Prop):V→CV
 | .c (.ptr id off)=>match gC P s f with
   | some (o,_,n)=>S1 (Nat.blt 0 n) (l, .c (.ptr id (off+o)))
   | none=>none
 | .c (.iptr cs off)=>match gC P s f with
   | some (o,_,n)=>S1 (Nat.blt 0 n) (l, .c (.iptr cs (off+o)))
   | none=>none
 | _=>none
theorem Z4 {P:Program} {s:TypeId} {f:Nat} {l l':List Prop} {x v:V} (h:kj P s f l x=some (l',v)):l=l'∧(GP P s f x).1∧(GP P s f x).2=v:=by
 unfold kj at h
 unfold GP
 split at h
 ·split at h
  ·rename_i h1
   obtain⟨hb,hr⟩:=CD h
   simp only [Prod.mk.injEq]at hr
   simp only [h1];exact⟨hr.1,by simpa using hb,hr.2⟩
  ·cases h
 ·split at h
  ·rename_i h1
   obtain⟨hb,hr⟩:=CD h
   simp only [Prod.mk.injEq]at hr
   simp only [h1];exact⟨hr.1,by simpa using hb,hr.2⟩
  ·cases h
 ·cases h
def Z5 (P:Program) (t:TypeId) (f:Nat) (l:List Prop):V→CV
 | .agg cs=>match gC P t f with
   | some (o,ag,n)=>S1 (Nat.ble (o+n) cs.length&&(ag||Nat.blt 0 n)) (l,Me ag o n cs)
   | none=>none
 | _=>none
theorem W8 {P:Program} {s:TypeId} {f:Nat} {l l':List Prop} {x v:V} (h:Z5 P s f l x=some (l',v)):l=l'∧(Nk P s f x).1∧(Nk P s f x).2=v:=by
 unfold Z5 at h
 unfold Nk
 split at h
 ·split at h
  ·rename_i h1
   obtain⟨hb,hr⟩:=CD h
   simp only [Prod.mk.injEq]at hr
   simp only [Bool.and_eq_true,Nat.ble_eq,Bool.or_eq_true,Nat.blt_eq]at hb
   simp only [h1];exact⟨hr.1,hb,hr.2⟩
  ·cases h
 ·cases h
def ez (P:Program) (t:TypeId) (l:List Prop) (x y:V) (u:Option V):CV:=
 match y with
 | .c (.int _ i)=>match x with
   | .c (.str s)=>S1 (KA P t) (l++[0≤i∧i<s.length], .c (.int .u8 (s.getD i.toNat 0).toNat))
   | .agg cs=>match Lb P t with
     | some (k,e,n)=>match SW P e,u with
       | some (ag,_),some u=>S1 (Nat.blt 0 n) (l++[(0≤i∧i<k)∧i.toNat*n+n≤cs.length∧Me ag (i.toNat*n) n cs=u],u)
       | _,_=>none
     | none=>none
   | _=>none
 | _=>none
theorem Yr {P:Program} {t:TypeId} {l l':List Prop} {x y v:V} {u:Option V} (h:ez P t l x y u=some (l',v)) (hl:BA l'):BA l∧(Nl P t x y).1∧(Nl P t x y).2=v:=by
 unfold ez at h
 unfold Nl
 split at h
 ·split at h
  ·obtain⟨hb,hr⟩:=CD h
   simp only [Prod.mk.injEq]at hr
   obtain⟨rfl,rfl⟩:=hr
   obtain⟨q1,q2,_⟩:=Av.1 hl
   exact⟨q1,⟨hb,q2⟩,rfl⟩
  ·split at h
   ·rename_i h1
    split at h
    ·rename_i h2
     obtain⟨hb,hr⟩:=CD h
     simp only [Prod.mk.injEq]at hr
     obtain⟨rfl,rfl⟩:=hr
     obtain⟨q1,q2,_⟩:=Av.1 hl
     simp only [h1,h2]
     exact⟨q1,⟨q2.1.1,q2.1.2,q2.2.1,by simpa using hb⟩,q2.2.2⟩
    ·cases h
   ·cases h
  ·cases h
 ·cases h
def ow (op:UnOp) (l:List Prop):V→CV
 | .c (.int k n)=>match op with
   | .neg =>some (l, .c (.int k (k.wrap (0 - n))))
   | .xor =>some (l, .c (.int k (ee k (if k.signed then -1 else k.max) n)))
   | _=>none
 | .c (.bool b)=>match op with
   | .not =>some (l, .c (.bool !b))
   | _=>none
 | _=>none
theorem c9 {op:UnOp} {l l':List Prop} {x v:V} (h:ow op l x=some (l',v)):l=l'∧(jg op x).1∧(jg op x).2=v:=by
 unfold ow at h
 unfold jg
 split at h<;>(try split at h)<;>simp_all
def eA (P:Program) (src dst:TypeId) (st:St) (l:List Prop):V→CV
 | .c (.int _ n)=>match bm P dst with
   | some k=>S1 (jP P src) (l, .c (.int k (k.wrap n)))
   | none=>none
 | .c (.str s)=>S1 (KA P src&&KA P dst) (l, .c (.str s))
 | x=>some (l++[(Ni P src dst st x).1],(Ni P src dst st x).2)
theorem Ys {P:Program} {src dst:TypeId} {st:St} {l l':List Prop} {x v:V} (h:eA P src dst st l x=some (l',v)) (hl:BA l'):BA l∧(Ni P src dst st x).1∧(Ni P src dst st x).2=v:=by
 unfold eA at h
 split at h
 ·unfold Ni
  split at h
  ·rename_i h1
   obtain⟨hb,hr⟩:=CD h
   simp only [Prod.mk.injEq]at hr
   simp only [h1];exact⟨hr.1▸hl,hb,hr.2⟩
  ·cases h
 ·unfold Ni
  obtain⟨hb,hr⟩:=CD h
  simp only [Prod.mk.injEq]at hr
  exact⟨hr.1▸hl,by simpa using hb,hr.2⟩
 ·simp only [Option.some.injEq,Prod.mk.injEq]at h
  obtain⟨rfl,rfl⟩:=h
  obtain⟨q1,q2,_⟩:=Av.1 hl
  exact⟨q1,q2,rfl⟩
def kl (P:Program) (t:TypeId) (st:St) (l:List Prop):V→CV
 | .c (.str s)=>S1 (KA P t) (l, .c (.int .i64 s.length))
 | .c (.sl len _)=>S1 (JY P t) (l, .c (.int .i64 len))
 | .c (.osl id)=>match st.look id with
   | some e=>match e.row with
     | some (_,_,len)=>S1 (JY P t) (l, .c (.int .i64 len))
     | none=>none
   | none=>none
 | x=>some (l++[(Va P t st x).1],(Va P t st x).2)
theorem Z6 {P:Program} {t:TypeId} {st:St} {l l':List Prop} {x v:V} (h:kl P t st l x=some (l',v)) (hl:BA l'):BA l∧(Va P t st x).1∧(Va P t st x).2=v:=by
 unfold kl at h
 split at h
 ·obtain⟨hb,hr⟩:=CD h
  simp only [Prod.mk.injEq]at hr
  exact⟨hr.1▸hl,hb,hr.2⟩
 ·obtain⟨hb,hr⟩:=CD h
  simp only [Prod.mk.injEq]at hr
  exact⟨hr.1▸hl,hb,hr.2⟩
 ·unfold Va
  split at h
  ·rename_i h1
   split at h
   ·rename_i h2
    obtain⟨hb,hr⟩:=CD h
    simp only [Prod.mk.injEq]at hr
    simp only [h1,h2]
    exact⟨hr.1▸hl,hb,hr.2⟩
   ·cases h
  ·cases h
 ·simp only [Option.some.injEq,Prod.mk.injEq]at h
  obtain⟨rfl,rfl⟩:=h
  obtain⟨q1,q2,_⟩:=Av.1 hl
  exact⟨q1,q2,rfl⟩
def gN (P:Program) (st:St) (g:Bool) (op:Op):Option V→CV
 | none=>some ([(J0 P st g op).1],(J0 P st g op).2)
 | some u=>some ([(J0 P st g op).1∧(J0 P st g op).2=u],u)
theorem OT {P:Program} {st:St} {g:Bool} {u:Option V} {op:Op} {l:List Prop} {v:V} (h:gN P st g op u=some (l,v)) (hl:BA l):(J0 P st g op).1∧(J0 P st g op).2=v:=by
 cases u<;>simp only [gN,Option.some.injEq,Prod.mk.injEq]at h<;>obtain⟨rfl,rfl⟩:=h
 ·exact⟨hl.1,rfl⟩
 ·exact hl.1
def oe (P:Program) (st:St) (g:Bool) (u:Option V):Op→CV
 | .move x=>some (CF st g x)
 | .assign x=>some (CF st g x)
 | .pick c a b=>match (CF st g c).2 with
   | .c (.bool p)=>jh (CF st g c).1 p (st.ev a) (st.ev b)
   | _=>none
 | .load t x=>match u with
   | none=>bu P t st (CF st g x).1 (CF st g x).2
   | some u=>ew P t st (CF st g x).1 u (CF st g x).2
 | .binOp op t x y _=>kg P op t (EX x||EX y) ((CF st g x).1++(CF st g y).1) (CF st g x).2 (CF st g y).2
 | .unOp op _ x=>ow op (CF st g x).1 (CF st g x).2
 | .convert src dst x=>eA P src dst st (CF st g x).1 (CF st g x).2
 | .slice t x lo hi none=>ki P t ((CF st g x).1++((W7 st g lo).1++(W7 st g hi).1)) (CF st g x).2 (W7 st g lo).2 (W7 st g hi).2
 | .fieldAddr s x f=>kj P s f (CF st g x).1 (CF st g x).2
 | .field t x f=>Z5 P t f (CF st g x).1 (CF st g x).2
 | .indexAddr t x i=>kh P t st ((CF st g x).1++(CF st g i).1) (CF st g x).2 (CF st g i).2
 | .index t x i=>ez P t ((CF st g x).1++(CF st g i).1) (CF st g x).2 (CF st g i).2 u
 | .call c=>match c.callee,c.args.toList,c.argTypes.toList with
   | .builtin .len,[x],[t]=>kl P t st (CF st g x).1 (CF st g x).2
   | _,_,_=>gN P st g (.call c) none
 | op=>gN P st g op u
theorem V7 {P:Program} {st:St} {g:Bool} {u:Option V} {op:Op} {l:List Prop} {v:V} (h:oe P st g u op=some (l,v)) (hl:BA l):(J0 P st g op).1∧(J0 P st g op).2=v:=by
 have A: ∀ x,BA (CF st g x).1→(st.arg g x).1∧(st.arg g x).2=(CF st g x).2:=fun x hx=>Px hx
 have O: ∀ x,BA (W7 st g x).1→(HO st g x).1∧(HO st g x).2=(W7 st g x).2:=fun x hx=>gM hx
 cases op<;>simp only [oe]at h<;>try exact OT h hl
 case move x=>
  simp only [Option.some.injEq]at h
  have:=A x (by rw [h];exact hl)
  rw [h]at this
  simpa only [J0,rd] using this
 case assign x=>
  simp only [Option.some.injEq]at h
  have:=A x (by rw [h];exact hl)
  rw [h]at this
  simpa only [J0,rd] using this
 case pick c a b=>
  split at h
  ·rename_i p hp
   unfold jh at h
   split at h
   ·rename_i ca q cb r h1 h2
    simp only [Option.some.injEq,Prod.mk.injEq]at h
    obtain⟨rfl,rfl⟩:=h
    obtain⟨q1,q2⟩:=Av.1 hl
    obtain⟨q2,q3⟩:=Av.1 q2
    obtain⟨k1,k2⟩:=A c q1
    rw [hp]at k2
    simp only [J0,rd,Pj,k2,bn,RN h1,RN h2]
    exact⟨⟨k1,TS q2,TS q3⟩,trivial⟩
   ·cases h
  ·cases h
 case load t x=>
  split at h
  ·have:=RO h
   obtain⟨k1,k2⟩:=A x (this.1▸hl)
   simp only [J0,rd,Pj,k2]
   exact⟨⟨k1,this.2.1⟩,this.2.2⟩
  ·have:=Yq h hl
   obtain⟨k1,k2⟩:=A x this.1
   simp only [J0,rd,Pj,k2]
   exact⟨⟨k1,this.2.1⟩,this.2.2⟩
 case binOp op t x y ty=>
  have:=Z1 h hl
  obtain⟨q1,q2⟩:=Av.1 this.1
  obtain⟨k1,k2⟩:=A x q1
  obtain⟨k3,k4⟩:=A y q2
  have e:J0 P st g (.binOp op t x y ty)=((st.arg g x).1∧(st.arg g y).1∧(Z0 P op t (EX x||EX y) (st.arg g x).2 (st.arg g y).2).1,(Z0 P op t (EX x||EX y) (st.arg g x).2 (st.arg g y).2).2):=by
   simp only [J0]
   unfold Z0
   split
   ·rename_i cs ds e1 e2;simp only [e1,e2]
   ·rename_i hne
    split
    ·rename_i cs ds e1 e2;exact(hne cs ds e1 e2).elim
    ·rfl
  rw [e,k2,k4]
  exact⟨⟨k1,k3,this.2.1⟩,this.2.2⟩
 case unOp op t x=>
  have:=c9 h
  obtain⟨k1,k2⟩:=A x (this.1▸hl)
  simp only [J0,rd,Pj,k2]
  exact⟨⟨k1,this.2.1⟩,this.2.2⟩
 case convert s d x=>
  have:=Ys h hl
  obtain⟨k1,k2⟩:=A x this.1
  simp only [J0,rd,Pj,k2]
  exact⟨⟨k1,this.2.1⟩,this.2.2⟩
 case slice t x lo hi mx=>
  cases mx with
  | some m=>exact OT h hl
  | none=>
    have:=Z3 h hl
    obtain⟨q1,q2⟩:=Av.1 this.1
    obtain⟨q2,q3⟩:=Av.1 q2
    obtain⟨k1,k2⟩:=A x q1
    obtain⟨k3,k4⟩:=O lo q2
    obtain⟨k5,k6⟩:=O hi q3
    simp only [J0,rd,Pj,k2,k4,k6]
    exact⟨⟨k1,k3,k5,this.2.1⟩,this.2.2⟩
 case fieldAddr s x f=>
  have:=Z4 h
  obtain⟨k1,k2⟩:=A x (this.1▸hl)
  simp only [J0,rd,Pj,k2]
  exact⟨⟨k1,this.2.1⟩,this.2.2⟩
 case field s x f=>
  have:=W8 h
  obtain⟨k1,k2⟩:=A x (this.1▸hl)
  simp only [J0,rd,Pj,k2]
  exact⟨⟨k1,this.2.1⟩,this.2.2⟩
 case indexAddr t x y=>
  have:=Z2 h hl
  obtain⟨q1,q2⟩:=Av.1 this.1
  obtain⟨k1,k2⟩:=A x q1
  obtain⟨k3,k4⟩:=A y q2
  simp only [J0,rd,Pj,k2,k4]
  exact⟨⟨k1,k3,this.2.1⟩,this.2.2⟩
 case index t x y=>
  have:=Yr h hl
  obtain⟨q1,q2⟩:=Av.1 this.1
  obtain⟨k1,k2⟩:=A x q1
  obtain⟨k3,k4⟩:=A y q2
  simp only [J0,rd,Pj,k2,k4]
  exact⟨⟨k1,k3,this.2.1⟩,this.2.2⟩
 case call c=>
  split at h
  ·rename_i x t h1 h2 h3
   have:=Z6 h hl
   obtain⟨k1,k2⟩:=A x this.1
   simp only [J0,rd,h1,h2,h3,WX,Pj,k2]
   exact⟨⟨k1,this.2.1⟩,this.2.2⟩
  ·exact OT h hl
def ji (P:Program) (st:St) (g:Bool) (u:Option V) (op:Op):CV:=
 match u with
 | none=>oe P st g none op
 | some u=>match oe P st g (some u) op with
   | some (l,v)=>some (l++[v=u],u)
   | none=>none
theorem Gt {P:Program} {st:St} {g:Bool} {u:Option V} {op:Op} {l:List Prop} {v:V} (h:ji P st g u op=some (l,v)) (hl:BA l):(J0 P st g op).1∧(J0 P st g op).2=v:=by
 cases u with
 | none=>simp only [ji]at h;exact V7 h hl
 | some u=>
   simp only [ji]at h
   split at h
   ·rename_i l1 v1 h1
    simp only [Option.some.injEq,Prod.mk.injEq]at h
    obtain⟨rfl,rfl⟩:=h
    obtain⟨q1,q2,_⟩:=Av.1 hl
    obtain⟨k1,k2⟩:=V7 h1 q1
    exact⟨k1,k2.trans q2⟩
   ·cases h
end Go.PL
namespace Go.PL
open Go Go.RowKit
inductive Stp where
 | a
 | v (x:V)
 | c (r:V)
 | e (len:Nat) (cs:List C)
def da (s:Stp) (len:Nat) (cs:List C) (k:Nat→List C→List Prop→Option (List Prop×St)):Option (List Prop×St):=
 match s with
 | .e len' cs'=>k len' cs' [len=len'∧cs=cs']
 | _=>k len cs []
theorem OU {s:Stp} {len:Nat} {cs:List C} {k:Nat→List C→List Prop→Option (List Prop×St)} {r:List Prop×St} (h:da s len cs k=some r):
 ∃ len' cs' l,k len' cs' l=some r∧(BA l→len=len'∧cs=cs'):=by
 cases s<;>simp only [da]at h<;>first
  | exact⟨_,_,_,h,fun q=>q.1⟩
  | exact⟨_,_,_,h,fun _=>⟨rfl,rfl⟩⟩
def eC (len:Nat):Option (TypeId×Nat×Nat)→Option (TypeId×Nat×Nat)
 | some (E,n,_)=>some (E,n,len)
 | none=>none
def OV (id:Cz) (len:Nat):List CT→Prop
 | []=>True
 | e::es=>match e.id==id with
   | true=>eC len e.row=e.row∧OV id len es
   | false=>OV id len es
def St.setR (st:St) (id:Cz) (cs:List C) (q:Bool) (len:Nat):St:={st with so:=st.so.map fun e=>match e.id==id with
 | true=>⟨e.id,eC len e.row,cs,e.pu&&q⟩
 | false=>e}
theorem bw {st:St} {id:Cz} {cs:List C} {q:Bool} {len:Nat} (h:OV id len st.so):st.setR id cs q len=st.setCs id cs q:=by
 have: ∀ l:List CT,OV id len l→(l.map fun e=>match e.id==id with
  | true=>(⟨e.id,eC len e.row,cs,e.pu&&q⟩:CT)
  | false=>e)=l.map fun e=>if(e.id==id)=true then(⟨e.id,e.row,cs,e.pu&&q⟩:CT)else e:=by
  intro l
  induction l with
  | nil=>intro _;rfl
  | cons e l ih=>
    intro h
    simp only [OV]at h
    simp only [List.map_cons]
    cases hb:e.id==id with
    | true=>rw [hb]at h;simp only at h;rw [ih h.2,h.1];simp
    | false=>rw [hb]at h;simp only at h;rw [ih h];simp
 unfold St.setR St.setCs
 rw [this st.so h]
def Z7 (P:Program) (st:St) (s:Stp) (d:Option Nat) (T:TypeId) (l:List Prop) (x y:V):Option (List Prop×St):=
 match x,y.cells,SW P T with
 | .c (.ptr id off),some cs,some (_,n)=>match st.look id with
   | some e=>match s with
     | .e len' cs'=>S1 (cs.length==n) (l++[off+n≤e.cs.length∧e.cs.take off++cs++e.cs.drop (off+cs.length)=cs',OV id len' st.so],(st.setR id cs' (Bq cs) len').put d .undef)
     | _=>S1 (cs.length==n&&Nat.ble (off+n) e.cs.length) (l,(st.setCs id (e.cs.take off++cs++e.cs.drop (off+cs.length)) (Bq cs)).put d .undef)
   | none=>none
 | _,_,_=>none
theorem Py {P:Program} {st st':St} {s:Stp} {d:Option Nat} {T:TypeId} {l l':List Prop} {x y:V} (h:Z7 P st s d T l x y=some (l',st')) (hl:BA l'):
 BA l∧(Np P st T x y).1∧(Np P st T x y).2.put d .undef =st':=by
 unfold Z7 at h
 unfold Np
 split at h
 ·rename_i id off cs ag n h1 h2
  split at h
  ·rename_i e he
   split at h
   ·rename_i len cs'
    obtain⟨hb,hr⟩:=CD h
    simp only [Prod.mk.injEq]at hr
    obtain⟨rfl,rfl⟩:=hr
    obtain⟨q1,q2,q3,_⟩:=Av.1 hl
    simp only [h1,h2,he]
    exact⟨q1,⟨by simpa using hb,q2.1⟩,by rw [q2.2,bw q3]⟩
   ·obtain⟨hb,hr⟩:=CD h
    simp only [Prod.mk.injEq]at hr
    obtain⟨rfl,rfl⟩:=hr
    simp only [Bool.and_eq_true,Nat.ble_eq,beq_iff_eq]at hb
    simp only [h1,h2,he]
    exact⟨hl,hb,trivial⟩
  ·cases h
 ·cases h
def km (st:St) (n:Nat):V→Option (List Prop×Nat×List C×Bool)
 | .c (.sl m cs)=>some ([cs.length=m*n],m,cs,true)
 | .c (.osl id)=>match st.look id with
   | some e=>match e.row with
     | some (_,n',m)=>S1 (n'==n) ([],m,e.cs,e.pu)
     | none=>none
   | none=>none
 | _=>none
theorem Z8 {st:St} {n:Nat} {x:V} {l:List Prop} {r:Nat×List C×Bool} (h:km st n x=some (l,r)) (hl:BA l):VW st n x=some r:=by
 unfold km at h
 unfold VW
 split at h
 ·simp only [Option.some.injEq,Prod.mk.injEq]at h
  obtain⟨rfl,rfl⟩:=h
  exact if_pos hl.1
 ·split at h
  ·rename_i h1
   split at h
   ·rename_i h2
    obtain⟨hb,hr⟩:=CD h
    simp only [Prod.mk.injEq]at hr
    simp only [h1,h2]
    rw [if_pos (by simpa using hb)]
    exact congrArg some hr.2
   ·cases h
  ·cases h
 ·cases h
def W9 (P:Program) (st:St) (s:Stp) (d:Nat) (t:TypeId) (l:List Prop) (u x:V):Option (List Prop×St):=
 match u,Mh P t with
 | .c (.osl id),some (E,n,by')=>match st.look id,km st n x with
   | some e,some (l2,m,cs,q)=>match e.row with
     | some (E',n',len)=>match E'==E&&n'==n&&Nat.blt 0 n with
       | true=>da s (len+m) (e.cs++cs) fun len' cs' l3=>
         some (l++(l2++(l3++[(len+m)*by'≤140737488355328∧len+m≤maxLen])),(st.new ⟨id,some (E,n,len'),cs',e.pu&&q⟩).put (some d) (.c (.osl id)))
       | false=>none
     | none=>none
   | _,_=>none
 | _,_=>none
theorem Vg {P:Program} {st st':St} {s:Stp} {d:Nat} {t:TypeId} {l l':List Prop} {u x:V} (h:W9 P st s d t l u x=some (l',st')) (hl:BA l'):
 BA l∧(Le P st d t u x).1∧(Le P st d t u x).2=st':=by
 unfold W9 at h
 unfold Le
 split at h
 ·rename_i id E n by' h1
  split at h
  ·rename_i e l2 m cs q h2 h3
   split at h
   ·rename_i E' n' len h4
    split at h
    ·rename_i hb
     obtain⟨len',cs',l3,hk,ht⟩:=OU h
     simp only [Option.some.injEq,Prod.mk.injEq]at hk
     obtain⟨rfl,rfl⟩:=hk
     obtain⟨q1,q2⟩:=Av.1 hl
     obtain⟨q2,q3⟩:=Av.1 q2
     obtain⟨q3,q4,_⟩:=Av.1 q3
     obtain⟨rfl,rfl⟩:=ht q3
     simp only [Bool.and_eq_true,beq_iff_eq,Nat.blt_eq]at hb
     simp only [h1,h2,Z8 h3 q2,h4]
     exact⟨q1,⟨hb.1.1,hb.1.2,hb.2,q4⟩,trivial⟩
    ·cases h
   ·cases h
  ·cases h
 ·cases h
def eD (P:Program) (st:St) (s:Stp) (d:Nat) (t:TypeId) (l:List Prop) (x y:V):Option (List Prop×St):=
 match x,y,s with
 | .c (.bsl id off len), .c (.bsl id2 off2 len2), .e len' cs'=>match JV P t with
   | some (_,1)=>match st.look id,st.look id2 with
     | some e,some e2=>S1 (Nat.ble (off+Nat.min len2 len) e.cs.length&&Nat.ble (off2+Nat.min len2 len) e2.cs.length) (l++[e.cs.take off++(e2.cs.drop off2).take (Nat.min len2 len)++e.cs.drop (off+((e2.cs.drop off2).take (Nat.min len2 len)).length)=cs',OV id len' st.so],
      (st.setR id cs' (Bq ((e2.cs.drop off2).take (Nat.min len2 len))) len').put (some d) (.c (.int .i64 (Nat.min len2 len:Nat))))
     | _,_=>none
   | _=>none
 | _,_,_=>none
theorem Yt {P:Program} {st st':St} {s:Stp} {d:Nat} {t:TypeId} {l l':List Prop} {x y:V} (h:eD P st s d t l x y=some (l',st')) (hl:BA l'):
 BA l∧(RE P st d t x y).1∧(RE P st d t x y).2=st':=by
 unfold eD at h
 unfold RE
 split at h
 ·rename_i id off len id2 off2 len2 len' cs'
  split at h
  ·rename_i E h0
   split at h
   ·rename_i e e2 h1 h2
    obtain⟨hb,hr⟩:=CD h
    simp only [Prod.mk.injEq]at hr
    obtain⟨rfl,rfl⟩:=hr
    obtain⟨q1,q2,q3,_⟩:=Av.1 hl
    simp only [Bool.and_eq_true,Nat.ble_eq]at hb
    simp only [h0,h1,h2]
    exact⟨q1,hb,by rw [q2,bw q3]⟩
   ·cases h
  ·cases h
 ·cases h
def eE (P:Program) (st:St) (s:Stp) (d:Nat) (t:TypeId) (p:List Prop) (l c:V):Option (List Prop×St):=
 match l,c,Mh P t with
 | .c (.int _ l), .c (.int _ c),some (E,n,by')=>match Ts P E with
   | some z=>match z.length==n&&Nat.blt 0 n with
     | true=>da s l.toNat (EK z l.toNat) fun len' cs' l3=>some (p++(l3++[0≤l∧l≤c∧c*by'≤140737488355328∧c≤maxLen]),(st.new ⟨d::st.pre,some (E,n,len'),cs',true⟩).put (some d) (.c (.osl (d::st.pre))))
     | false=>none
   | none=>none
 | _,_,_=>none
theorem Yu {P:Program} {st st':St} {s:Stp} {d:Nat} {t:TypeId} {p l':List Prop} {l c:V} (h:eE P st s d t p l c=some (l',st')) (hl:BA l'):
 BA p∧(RF P st d t l c).1∧(RF P st d t l c).2=st':=by
 unfold eE at h
 unfold RF
 split at h
 ·rename_i h1
  split at h
  ·rename_i h2
   split at h
   ·rename_i hb
    obtain⟨len',cs',l3,hk,ht⟩:=OU h
    simp only [Option.some.injEq,Prod.mk.injEq]at hk
    obtain⟨rfl,rfl⟩:=hk
    obtain⟨q1,q2⟩:=Av.1 hl
    obtain⟨q2,q3,_⟩:=Av.1 q2
    obtain⟨rfl,rfl⟩:=ht q2
    simp only [Bool.and_eq_true,beq_iff_eq,Nat.blt_eq]at hb
    simp only [h1,h2]
    exact⟨q1,⟨q3.1,q3.2.1,q3.2.2.1,q3.2.2.2,hb.1,hb.2⟩,trivial⟩
   ·cases h
  ·cases h
 ·cases h
def Mk (st:St) (g:Bool) (ps:List (Nat×Operand)):List Prop×List (Nat×V):=
 match ps with
 | []=>([],[])
 | (i,x)::r=>((CF st g x).1++(Mk st g r).1,(i,(CF st g x).2)::(Mk st g r).2)
theorem V8 {st:St} {g:Bool}: ∀ {ps:List (Nat×Operand)},BA (Mk st g ps).1→(st.parts g ps).1∧(st.parts g ps).2=(Mk st g ps).2
 | [],_=>⟨trivial,rfl⟩
 | (i,x)::r,hl=>by
   obtain⟨h1,h2⟩:=Av.1 hl
   have a:=Px (st:=st) (g:=g) (x:=x) h1
   have b:=V8 (st:=st) (g:=g) (ps:=r) h2
   simp only [St.parts,Mk]
   exact⟨⟨a.1,b.1⟩,by rw [a.2,b.2]⟩
def gO (P:Program) (st:St) (s:Stp) (d:Nat) (t:TypeId) (len:Nat) (ps:List (Nat×Operand)):Option (List Prop×St):=
 match Mh P t with
 | some (E,n,_)=>match Ts P E with
   | some z=>match M2 (fun i=>some (i*n,n)) (EK z len) ((Mk st true ps).2.map Yc)with
     | some cs=>match z.length==n&&Nat.blt 0 n&&Nat.ble (len*n) (2 ^ 24)&&Bq cs with
       | true=>da s len cs fun len' cs' l3=>some ((Mk st true ps).1++l3,(st.new ⟨d::st.pre,some (E,n,len'),cs',true⟩).put (some d) (.c (.osl (d::st.pre))))
       | false=>none
     | none=>none
   | none=>none
 | none=>none
theorem Z9 {P:Program} {st st':St} {s:Stp} {d:Nat} {t:TypeId} {len:Nat} {ps:List (Nat×Operand)} {l':List Prop} (h:gO P st s d t len ps=some (l',st')) (hl:BA l'):
 (FO P st d t len ps).1∧(FO P st d t len ps).2=st':=by
 unfold gO at h
 unfold FO
 split at h
 ·rename_i h1
  split at h
  ·rename_i h2
   split at h
   ·rename_i h3
    split at h
    ·rename_i hb
     obtain⟨len',cs',l3,hk,ht⟩:=OU h
     simp only [Option.some.injEq,Prod.mk.injEq]at hk
     obtain⟨rfl,rfl⟩:=hk
     obtain⟨q1,q2⟩:=Av.1 hl
     obtain⟨rfl,rfl⟩:=ht q2
     obtain⟨k1,k2⟩:=V8 q1
     simp only [Bool.and_eq_true,beq_iff_eq,Nat.blt_eq,Nat.ble_eq]at hb
     simp only [h1,h2,k2,h3,hb.2]
     exact⟨⟨k1,hb.1.1.1,hb.1.1.2,hb.1.2⟩,trivial⟩
    ·cases h
   ·cases h
  ·cases h
 ·cases h
def gx (P:Program) (st:St) (s:Stp) (o:Oper):Option (List Prop×St):=
 match o.op with
 | .store T x y=>Z7 P st s o.dst T ((CF st true x).1++(CF st true y).1) (CF st true x).2 (ei y (CF st true y).2)
 | op=>match o.dst with
   | none=>none
   | some d=>match op with
     | .alloc T=>match VT P T with
       | some cs=>some ([],(st.new ⟨d::st.pre,none,cs,false⟩).put (some d) (.c (.ptr (d::st.pre) 0)))
       | none=>none
     | .box _ x=>match (CF st true x).2.cells with
       | some cs=>some ((CF st true x).1,(st.new ⟨d::st.pre,none,cs,false⟩).put (some d) (.c (.ptr (d::st.pre) 0)))
       | none=>none
     | .assign (.const (.slice none 0 0))=>match JV P o.type with
       | some (E,n)=>some ([],(st.new ⟨d::st.pre,some (E,n,0),[],true⟩).put (some d) (.c (.osl (d::st.pre))))
       | none=>none
     | .buildSlice t len ps=>gO P st s d t len ps.toList
     | .makeSlice t l c=>eE P st s d t ((CF st true l).1++(CF st true c).1) (CF st true l).2 (CF st true c).2
     | .call c=>match c.callee,c.args.toList,c.argTypes.toList with
       | .builtin .append,[u,x],[t,t']=>match t==t' with
         | true=>W9 P st s d t ((CF st true u).1++(CF st true x).1) (CF st true u).2 (CF st true x).2
         | false=>none
       | .builtin .copy,[u,x],[t,_]=>eD P st s d t ((CF st true u).1++(CF st true x).1) (CF st true u).2 (CF st true x).2
       | _,_,_=>none
     | _=>none
theorem QO {P:Program} {st st':St} {s:Stp} {o:Oper} {l:List Prop} (h:gx P st s o=some (l,st')) (hl:BA l):(PL.ef P st o).1∧(PL.ef P st o).2=st':=by
 have A: ∀ x,BA (CF st true x).1→(st.arg true x).1∧(st.arg true x).2=(CF st true x).2:=fun x hx=>Px hx
 obtain⟨dst,op,ty,pos,aft,gd⟩:=o
 cases op<;>cases dst<;>simp only [gx]at h<;>simp only [PL.ef]<;>try (cases h;done)
 case store.none T x y=>
  have:=Py h hl
  obtain⟨q1,q2⟩:=Av.1 this.1
  obtain⟨k1,k2⟩:=A x q1
  obtain⟨k3,k4⟩:=A y q2
  rw [k2,k4]
  exact⟨⟨k1,k3,this.2.1⟩,this.2.2⟩
 case store.some T x y d=>
  have:=Py h hl
  obtain⟨q1,q2⟩:=Av.1 this.1
  obtain⟨k1,k2⟩:=A x q1
  obtain⟨k3,k4⟩:=A y q2
  rw [k2,k4]
  exact⟨⟨k1,k3,this.2.1⟩,this.2.2⟩
 case alloc.some T d=>
  split at h
  ·rename_i cs hz
   simp only [Option.some.injEq,Prod.mk.injEq]at h
   obtain⟨rfl,rfl⟩:=h
   simp only [hz];exact⟨trivial,trivial⟩
  ·cases h
 case box.some T x d=>
  split at h
  ·rename_i cs hz
   simp only [Option.some.injEq,Prod.mk.injEq]at h
   obtain⟨rfl,rfl⟩:=h
   obtain⟨k1,k2⟩:=A x hl
   simp only [k2,hz];exact⟨⟨k1,trivial⟩,trivial⟩
  ·cases h
 case assign.some x d=>
  split at h
  all_goals first
   | (split at h
      ·rename_i E n hE
       simp only [Option.some.injEq,Prod.mk.injEq]at h
       obtain⟨rfl,rfl⟩:=h
       simp_all
      ·cases h)
   | (rename_i q;simp_all;done)
   | (cases h;done)
   | simp_all
 case buildSlice.some t len ps d=>exact Z9 h hl
 case makeSlice.some t a b d=>
  have:=Yu h hl
  obtain⟨q1,q2⟩:=Av.1 this.1
  obtain⟨k1,k2⟩:=A a q1
  obtain⟨k3,k4⟩:=A b q2
  rw [k2,k4]
  exact⟨⟨k1,k3,this.2.1⟩,this.2.2⟩
 case call.some c d=>
  split at h
  ·rename_i u x t t' h1 h2 h3
   split at h
   ·rename_i hb
    obtain rfl:t=t':=by simpa using hb
    have:=Vg h hl
    obtain⟨q1,q2⟩:=Av.1 this.1
    obtain⟨k1,k2⟩:=A u q1
    obtain⟨k3,k4⟩:=A x q2
    simp only [h1,h2,h3]
    rw [k2,k4]
    exact⟨⟨k1,k3,trivial,this.2.1⟩,this.2.2⟩
   ·cases h
  ·rename_i u x t t' h1 h2 h3
   have:=Yt h hl
   obtain⟨q1,q2⟩:=Av.1 this.1
   obtain⟨k1,k2⟩:=A u q1
   obtain⟨k3,k4⟩:=A x q2
   simp only [h1,h2,h3]
   rw [k2,k4]
   exact⟨⟨k1,k3,trivial,this.2.1⟩,this.2.2⟩
  ·cases h
def Stp.u:Stp→Option V
 | .v x=>some x
 | _=>none
def KK (P:Program) (I:World→Prop) (dr:Bool) (ops:Array Oper) (o:Oper) (s:Stp) (st:St):Option (List Prop×St):=
 match o.guard with
 | none=>match Dx o.op with
   | .rd =>match ji P st true s.u o.op with
     | some (l,v)=>some (l,st.put o.dst v)
     | none=>none
   | .cut x=>match dr with
     | true=>match ji P st true s.u o.op with
       | some (l,v)=>some (l,st.put o.dst v)
       | none=>none
     | false=>match ji P (st.cutAt true x) true s.u o.op with
       | some (l,v)=>some (l,(st.cutAt true x).put o.dst v)
       | none=>none
   | .ef =>match dr with
     | true=>none
     | false=>gx P st s o
   | .call f xs=>match s with
     | .c r=>match E9 ((FP st true xs).2.map (De st))&&(r.flat||(!dr&&Nat.ble (Fg (FP st true xs).2).length 1&&(Fg (FP st true xs).2).all st.okFrz))with
       | true=>some ((FP st true xs).1++[Ah P I f ((FP st true xs).2.map (De st)) (· =r)],match dr with
         | true=>st.put o.dst r
         | false=>st.after (Fg (FP st true xs).2) o.dst r)
       | false=>none
     | _=>none
   | .no =>none
 | some (j,want)=>match J3 st ops j want with
   | some g=>match Dx o.op with
     | .rd =>match ji P st g s.u o.op with
       | some ([],v)=>some ([],st.put o.dst (.g g v))
       | some (l,v)=>some ([g=true→BA l],st.put o.dst (.g g v))
       | none=>none
     | .cut _=>match dr with
       | true=>match ji P st g s.u o.op with
         | some ([],v)=>some ([],st.put o.dst (.g g v))
         | some (l,v)=>some ([g=true→BA l],st.put o.dst (.g g v))
         | none=>none
       | false=>none
     | .call f xs=>match s with
       | .c r=>match E9 ((FP st g xs).2.map (De st))&&(r.flat||(!dr&&(Fg (FP st g xs).2).isEmpty))with
         | true=>some ([g=true→BA (FP st g xs).1∧Ah P I f ((FP st g xs).2.map (De st)) (· =r)],st.put o.dst (.g g r))
         | false=>none
       | _=>none
     | .ef =>match dr with
       | true=>none
       | false=>match gx P st s o with
         | some (l,st')=>some (l++[g=true],st')
         | none=>none
     | _=>none
   | none=>none
def GT (P:Program) (I:World→Prop) (dr:Bool) (ops:Array Oper):List Oper→List Stp→St→Option (List Prop×St)
 | [],[],st=>some ([],st)
 | o::rest,s::ss,st=>match KK P I dr ops o s st with
   | some (l,st')=>match GT P I dr ops rest ss st' with
     | some (l',st'')=>some (l++l',st'')
     | none=>none
   | none=>none
 | _,_,_=>none
theorem eF {st:St} {g:Bool} {x:Operand}:(st.arg g x).2=(CF st g x).2:=by
 unfold CF St.arg
 generalize st.ev x=e
 cases e<;>rfl
theorem V9 {st:St} {g:Bool}: ∀ {xs:List Operand},(st.args g xs).2=(FP st g xs).2
 | []=>rfl
 | x::xs=>by simp only [St.args,FP,eF,V9 (xs:=xs)]
theorem Pz {P:Program} {I:World→Prop} {ops:Array Oper} {o:Oper} {s:Stp} {st st':St} {l:List Prop} {K:St→Prop} (h:KK P I false ops o s st=some (l,st')) (hl:BA l) (hK:K st'):dR P I ops o st K:=by
 unfold KK at h
 unfold dR
 split at h
 ·rename_i hg
  rw [hg]
  simp only
  unfold dQ
  right
  split at h
  ·rename_i hk
   simp only [hk]
   split at h
   ·rename_i l v ho
    simp only [Option.some.injEq,Prod.mk.injEq]at h
    obtain⟨rfl,rfl⟩:=h
    obtain⟨h1,h2⟩:=Gt ho hl
    exact⟨h1,by rw [h2];exact hK⟩
   ·cases h
  ·rename_i x hk
   simp only [hk]
   dsimp only at h
   split at h
   ·rename_i l v ho
    simp only [Option.some.injEq,Prod.mk.injEq]at h
    obtain⟨rfl,rfl⟩:=h
    obtain⟨h1,h2⟩:=Gt ho hl
    exact⟨h1,by rw [h2];exact hK⟩
   ·cases h
  ·rename_i hk
   simp only [hk]
   obtain⟨h1,h2⟩:=QO h hl
   exact⟨h1,by rw [h2];exact hK⟩
  ·rename_i f xs hk
   simp only [hk]
   split at h
   ·rename_i r
    split at h
    ·rename_i hb
     simp only [Option.some.injEq,Prod.mk.injEq]at h
     obtain⟨rfl,rfl⟩:=h
     obtain⟨q1,q2,_⟩:=Av.1 hl
     obtain⟨k1,k2⟩:=JB q1
     simp only [Bool.and_eq_true,Bool.or_eq_true,Bool.not_false,true_and,Nat.ble_eq,List.all_eq_true]at hb
     rw [k2]
     refine⟨k1,hb.1,_,q2,fun r' hr'=>?_⟩
     subst hr'
     exact⟨hb.2,hK⟩
    ·cases h
   ·cases h
  ·cases h
 ·rename_i j want hg
  rw [hg]
  simp only
  split at h
  ·rename_i g hq
   rw [hq]
   simp only
   unfold oc
   by_cases hef:Dx o.op= .ef
   ·left
    rw [hef]at h
    dsimp only at h
    split at h
    ·rename_i l1 st1 h1
     simp only [Option.some.injEq,Prod.mk.injEq]at h
     obtain⟨rfl,rfl⟩:=h
     obtain⟨q1,q2,_⟩:=Av.1 hl
     refine⟨fun _=>?_,fun hf=>by rw [q2]at hf;cases hf⟩
     unfold dQ
     right
     simp only [hef]
     obtain⟨k1,k2⟩:=QO h1 q1
     exact⟨k1,by rw [k2];exact hK⟩
    ·cases h
   right
   split at h
   ·rename_i hk
    simp only [hk]
    split at h
    ·rename_i v ho
     simp only [Option.some.injEq,Prod.mk.injEq]at h
     obtain⟨rfl,rfl⟩:=h
     exact⟨v,fun _=>Gt ho trivial,hK⟩
    ·rename_i l v hne ho
     simp only [Option.some.injEq,Prod.mk.injEq]at h
     obtain⟨rfl,rfl⟩:=h
     exact⟨v,fun hgt=>Gt ho (hl.1 hgt),hK⟩
    ·cases h
   ·cases h
   ·rename_i f xs hk
    simp only [hk]
    split at h
    ·rename_i r
     split at h
     ·rename_i hb
      simp only [Option.some.injEq,Prod.mk.injEq]at h
      obtain⟨rfl,rfl⟩:=h
      simp only [Bool.and_eq_true,Bool.or_eq_true,Bool.not_false,true_and,List.isEmpty_iff]at hb
      refine⟨fun hgt=>?_,r,hb.2.imp id (fun q=>by rw [V9];exact q),fun hgt=>?_,hK⟩
      ·obtain⟨k1,k2⟩:=JB (hl.1 hgt).1
       rw [k2]
       exact⟨k1,hb.1⟩
      ·obtain⟨k1,k2⟩:=JB (hl.1 hgt).1
       rw [k2]
       exact(hl.1 hgt).2
     ·cases h
    ·cases h
   ·rename_i hk;exact absurd hk hef
   ·cases h
  ·cases h
theorem eG {P:Program} {I:World→Prop} {ops:Array Oper} {o:Oper} {s:Stp} {st st':St} {l:List Prop} {K:St→Prop} (h:KK P I true ops o s st=some (l,st')) (hl:BA l) (hK:K st'):jV P I ops o st K:=by
 unfold KK at h
 unfold jV
 split at h
 ·rename_i hg
  rw [hg]
  simp only
  unfold jU
  split at h
  ·rename_i hk
   simp only [hk]
   split at h
   ·rename_i l v ho
    simp only [Option.some.injEq,Prod.mk.injEq]at h
    obtain⟨rfl,rfl⟩:=h
    obtain⟨h1,h2⟩:=Gt ho hl
    exact⟨h1,by rw [h2];exact hK⟩
   ·cases h
  ·rename_i x hk
   simp only [hk]
   dsimp only at h
   split at h
   ·rename_i l v ho
    simp only [Option.some.injEq,Prod.mk.injEq]at h
    obtain⟨rfl,rfl⟩:=h
    obtain⟨h1,h2⟩:=Gt ho hl
    exact⟨h1,by rw [h2];exact hK⟩
   ·cases h
  ·dsimp only at h;cases h
  ·rename_i f xs hk
   simp only [hk]
   split at h
   ·rename_i r
    split at h
    ·rename_i hb
     simp only [Option.some.injEq,Prod.mk.injEq]at h
     obtain⟨rfl,rfl⟩:=h
     obtain⟨q1,q2,_⟩:=Av.1 hl
     obtain⟨k1,k2⟩:=JB q1
     simp only [Bool.and_eq_true,Bool.or_eq_true,Bool.not_true,Bool.false_eq_true,false_and,or_false]at hb
     rw [k2]
     exact⟨k1,hb.1,_,hb.2,q2,hK⟩
    ·cases h
   ·cases h
  ·cases h
 ·rename_i j want hg
  rw [hg]
  simp only
  split at h
  ·rename_i g hq
   rw [hq]
   simp only
   unfold od
   split at h
   ·rename_i hk
    simp only [hk]
    split at h
    ·rename_i v ho
     simp only [Option.some.injEq,Prod.mk.injEq]at h
     obtain⟨rfl,rfl⟩:=h
     exact⟨v,fun _=>Gt ho trivial,hK⟩
    ·rename_i l v hne ho
     simp only [Option.some.injEq,Prod.mk.injEq]at h
     obtain⟨rfl,rfl⟩:=h
     exact⟨v,fun hgt=>Gt ho (hl.1 hgt),hK⟩
    ·cases h
   ·rename_i x hk
    simp only [hk]
    dsimp only at h
    split at h
    ·rename_i v ho
     simp only [Option.some.injEq,Prod.mk.injEq]at h
     obtain⟨rfl,rfl⟩:=h
     exact⟨v,fun _=>Gt ho trivial,hK⟩
    ·rename_i l v hne ho
     simp only [Option.some.injEq,Prod.mk.injEq]at h
     obtain⟨rfl,rfl⟩:=h
     exact⟨v,fun hgt=>Gt ho (hl.1 hgt),hK⟩
    ·cases h
   ·rename_i f xs hk
    simp only [hk]
    split at h
    ·rename_i r
     split at h
     ·rename_i hb
      simp only [Option.some.injEq,Prod.mk.injEq]at h
      obtain⟨rfl,rfl⟩:=h
      simp only [Bool.and_eq_true,Bool.or_eq_true,Bool.not_true,Bool.false_eq_true,false_and,or_false]at hb
      refine⟨fun hgt=>?_,r,hb.2,fun hgt=>?_,hK⟩
      ·obtain⟨k1,k2⟩:=JB (hl.1 hgt).1
       rw [k2]
       exact⟨k1,hb.1⟩
      ·obtain⟨k1,k2⟩:=JB (hl.1 hgt).1
       rw [k2]
       exact(hl.1 hgt).2
     ·cases h
    ·cases h
   ·dsimp only at h;cases h
   ·cases h
  ·cases h
theorem Xa {P:Program} {I:World→Prop} {ops:Array Oper}: ∀ {l:List Oper} {ss:List Stp} {st st':St} {cs:List Prop} {K:St→Prop},GT P I false ops l ss st=some (cs,st')→BA cs→K st'→Cm P I ops l st K
 | [],[],st,st',cs,K,h,_,hK=>by
   simp only [GT,Option.some.injEq,Prod.mk.injEq]at h
   obtain⟨rfl,rfl⟩:=h
   exact hK
 | o::rest,s::ss,st,st',cs,K,h,hl,hK=>by
   simp only [GT]at h
   split at h
   ·rename_i l1 st1 h1
    split at h
    ·rename_i l2 st2 h2
     simp only [Option.some.injEq,Prod.mk.injEq]at h
     obtain⟨rfl,rfl⟩:=h
     obtain⟨q1,q2⟩:=Av.1 hl
     exact Pz (K:=fun s=>Cm P I ops rest s K) h1 q1 (Xa h2 q2 hK)
    ·cases h
   ·cases h
 | [],_::_,_,_,_,_,h,_,_=>by simp [GT]at h
 | _::_,[],_,_,_,_,h,_,_=>by simp [GT]at h
theorem bA {P:Program} {I:World→Prop} {ops:Array Oper}: ∀ {l:List Oper} {ss:List Stp} {st st':St} {cs:List Prop} {K:St→Prop},GT P I true ops l ss st=some (cs,st')→BA cs→K st'→Jy P I ops l st K
 | [],[],st,st',cs,K,h,_,hK=>by
   simp only [GT,Option.some.injEq,Prod.mk.injEq]at h
   obtain⟨rfl,rfl⟩:=h
   exact hK
 | o::rest,s::ss,st,st',cs,K,h,hl,hK=>by
   simp only [GT]at h
   split at h
   ·rename_i l1 st1 h1
    split at h
    ·rename_i l2 st2 h2
     simp only [Option.some.injEq,Prod.mk.injEq]at h
     obtain⟨rfl,rfl⟩:=h
     obtain⟨q1,q2⟩:=Av.1 hl
     exact eG (K:=fun s=>Jy P I ops rest s K) h1 q1 (bA h2 q2 hK)
    ·cases h
   ·cases h
 | [],_::_,_,_,_,_,h,_,_=>by simp [GT]at h
 | _::_,[],_,_,_,_,h,_,_=>by simp [GT]at h
section
variable {P:Program} {F:Fr} {st:St}
theorem Ai.reg {id:Nat} {l:List Oper} {Q:Exit→St→Prop} {ss:List Stp} {cs:List Prop} {st':St} (hr:GT P F.I false l.toArray l ss st=some (cs,st')) (hl:BA cs) (h:Q .normal st'):Ai P F (.region id l.toArray false) st Q:=
 Ai.region (Xa hr hl h)
theorem Ai.regQ {id:Nat} {l:List Oper} {Q:Exit→St→Prop} {ss:List Stp} {cs:List Prop} {st':St} (h1:P.follows .mixedOrders =true) (h2:Region.lexB .any l.toArray=true) (hr:GT P F.I true l.toArray l ss st=some (cs,st')) (hl:BA cs) (h:Q .normal st'):Ai P F (.region id l.toArray true) st Q:=
 Ai.regionQ h1 h2 (bA hr hl h)
theorem Ai.ifB {c:Operand} {x y:Code} {Q:Exit→St→Prop} (b:Bool) (hc:st.ev c= .c (.bool b)) (h1:b=true→Ai P F x st Q) (h2:b=false→Ai P F y st Q):Ai P F (.cond c x y) st Q:=Ai.cond hc h1 h2
theorem Ai.at {c:Code} {Q:Exit→St→Prop} (st':St) (h:st=st') (hh:Ai P F c st' Q):Ai P F c st Q:=h▸hh
def iter {σ ρ:Type} (B:σ→Option (σ⊕ρ)):Nat→σ→Option ρ
 | 0,_=>none
 | n+1,s=>match B s with
   | some (.inl s')=>iter B n s'
   | some (.inr r)=>some r
   | none=>none
theorem Ai.iter {σ ρ:Type} {B:σ→Option (σ⊕ρ)} (S:σ→St) {N:Nat} {s0:σ} {o:ρ} {c:Code} {Q:Exit→St→Prop} (hi:PL.iter B N s0=some o) (hl:D4 st (S s0))
 (hb: ∀ s z,B s=some z→(∀ o',z= .inr o'→o'=o)→Ai P F c (S s) (B4 (fun st'=> ∃ s',z= .inl s'∧D4 st' (S s')) Q)):Ai P F (.loop c) st Q:=by
 refine Ai.loop (X:=Nat×σ) (fun x=>S x.2) (fun x=>PL.iter B x.1 x.2=some o) (fun x=>x.1) (N,s0) hi hl ?_
 intro ⟨n,s⟩ hx
 cases n with
 | zero=>simp [PL.iter]at hx
 | succ n=>
   simp only [PL.iter]at hx
   cases hB:B s with
   | none=>rw [hB]at hx;simp at hx
   | some z=>
     rw [hB]at hx
     cases z with
     | inl s'=>
       refine(hb s _ hB (fun o' e=>by cases e)).mono fun e st' q=>?_
       cases e<;>simp only [B4]at q ⊢ <;>try exact q
       obtain⟨s'',e,hl'⟩:=q
       injection e with e;subst e
       exact⟨(n,s'),hx,Nat.lt_succ_self _,hl'⟩
     | inr r=>
       simp only [Option.some.injEq]at hx
       refine(hb s _ hB (fun o' e=>by injection e with e;rw [←e];exact hx)).mono fun e st' q=>?_
       cases e<;>simp only [B4]at q ⊢ <;>try exact q
       obtain⟨s'',e,_⟩:=q
       cases e
end
def Ab (x:Int):Int:=IntKind.i64.wrap x
def gd {α:Type} [Inhabited α] (g:Bool) (o:Option α):Option α:=if g=true then o else some default
def idx {α:Type} [Inhabited α] (l:List α) (i:Int):Option α:=if 0≤i∧i<l.length then some (l.getD i.toNat default)else none
def sidx (s:List UInt8) (i:Int):Option Int:=if 0≤i∧i<s.length then some (s.getD i.toNat 0).toNat else none
def cat (a b:List UInt8):Option (List UInt8):=if a.length+b.length≤maxLen then some (a++b)else none
def ssub (s:List UInt8) (a b:Int):Option (List UInt8):=if 0≤a∧a≤b∧b≤s.length then some ((s.drop a.toNat).take (b.toNat - a.toNat))else none
def app {α:Type} (by':Nat) (l m:List α):Option (List α):=if(l.length+m.length)*by'≤140737488355328∧l.length+m.length≤maxLen then some (l++m)else none
def need (p:Prop) [Decidable p]:Option Unit:=if p then some ()else none
theorem bS {α β:Type} {o:Option α} {k:α→Option β} {r:β} (h:o.bind k=some r): ∃ x,o=some x∧k x=some r:=by
 cases o with
 | none=>cases h
 | some x=>exact⟨x,rfl,h⟩
theorem iT {β:Type} {b:Bool} {x y:Option β} {r:β} (h:(if b=true then x else y)=some r) (hb:b=true):x=some r:=by rw [if_pos hb]at h;exact h
theorem iF {β:Type} {b:Bool} {x y:Option β} {r:β} (h:(if b=true then x else y)=some r) (hb:b=false):y=some r:=by rw [if_neg (by simp [hb])]at h;exact h
theorem sI {α:Type} {x y:α} (h:some x=some y):x=y:=Option.some.inj h
section
variable {α:Type} [Inhabited α] {l m r:List α} {i:Int} {x:α} {g:Bool}
theorem Bm (h:idx l i=some x):0≤i∧i<l.length:=by unfold idx at h;split at h; · assumption
                                                 ·cases h
theorem jj (h:idx l i=some x):x=l.getD i.toNat default:=by unfold idx at h;split at h; · injection h with h;exact h.symm
                                                           ·cases h
theorem M8 {o:Option α} (h:gd g o=some x):g=true→o=some x:=fun hg=>by unfold gd at h;rw [if_pos hg]at h;exact h
theorem OW (h:gd g (idx l i)=some x):g=true→(0≤i∧i<l.length)∧True:=fun hg=>⟨Bm (M8 h hg),trivial⟩
theorem aa {s:List UInt8} {n:Int} (h:sidx s i=some n):0≤i∧i<s.length:=by unfold sidx at h;split at h; · assumption
                                                                         ·cases h
theorem ab {s:List UInt8} {n:Int} (h:sidx s i=some n):n=(s.getD i.toNat 0).toNat :=by unfold sidx at h;split at h; · injection h with h;exact h.symm
                                                                                      ·cases h
theorem DB {a b c:List UInt8} (h:cat a b=some c):a.length+b.length≤maxLen:=by unfold cat at h;split at h; · assumption
                                                                              ·cases h
theorem DC {a b c:List UInt8} (h:cat a b=some c):c=a++b:=by unfold cat at h;split at h; · injection h with h;exact h.symm
                                                            ·cases h
theorem kn {s c:List UInt8} {a b:Int} (h:ssub s a b=some c):0≤a∧a≤b∧b≤s.length:=by unfold ssub at h;split at h; · assumption
                                                                                   ·cases h
theorem ko {s c:List UInt8} {a b:Int} (h:ssub s a b=some c):c=(s.drop a.toNat).take (b.toNat - a.toNat):=by unfold ssub at h;split at h; · injection h with h;exact h.symm
                                                                                                            ·cases h
omit [Inhabited α] in
theorem Du {b:Nat} (h:app b l m=some r):(l.length+m.length)*b≤140737488355328∧l.length+m.length≤maxLen:=by unfold app at h;split at h; · assumption
                                                                                                           ·cases h
omit [Inhabited α] in
theorem jk {b:Nat} (h:app b l m=some r):r=l++m:=by unfold app at h;split at h; · injection h with h;exact h.symm
                                                   ·cases h
end
theorem GU {p:Prop} [Decidable p] {u:Unit} (h:need p=some u):p:=by unfold need at h;split at h; · assumption
                                                                   ·cases h
def eI (k:IntKind) (v:Int):List C:=[.int k v]
def eB (v:Bool):List C:=[.bool v]
def eS (v:List UInt8):List C:=[.str v]
def eL {α:Type} (e:α→List C) (l:List α):List C:=[.sl l.length (l.flatMap e)]
theorem bB {α:Type} [Inhabited α] {l:List α} {i:Int} {x:α} {e:α→List C} {N:Nat} {o n:Nat} {ag:Bool} {v:V} {off:Nat} (hx:idx l i=some x) (hN: ∀ y,(e y).length =N) (hoff:off=i.toNat*N+o) (ho:o+n≤N) (h0:ag=true∨0<n)
 (hv:Me ag o n (e x)=v):off+n≤(l.flatMap e).length ∧Me ag off n (l.flatMap e)=v:=by
 have hb:=Bm hx
 have hxx:=jj hx
 have hlt:i.toNat<l.length:=by omega
 subst hoff
 rw [JA hN]
 constructor
 ·have:(i.toNat+1)*N≤l.length*N:=Nat.mul_le_mul_right _ hlt
  rw [Nat.add_mul]at this
  omega
 ·rw [←hv]
  unfold Me
  cases ag with
  | true=>simp only [if_true];rw [V6 hN l default hlt o n ho, ←hxx]
  | false=>simp only [Bool.false_eq_true,if_false];rw [er hN l default hlt o (by rcases h0 with h | h<;>first | (cases h;done) | omega), ←hxx]
def eH (P:Program) (st:St):ResultVar→Option V
 | .tmp t=>some (st.get t)
 | .cell t T=>match bu P T st [] (st.get t)with
   | some (_,v)=>some v
   | none=>none
def TT (P:Program) (st:St):List ResultVar→Option (List V)
 | []=>some []
 | x::xs=>match eH P st x,TT P st xs with
   | some v,some vs=>some (v::vs)
   | _,_=>none
def R5 (P:Program) (st:St):List ResultVar→Option V
 | [x]=>eH P st x
 | xs=>match TT P st xs with
   | some vs=>some (.tup vs)
   | none=>none
theorem OX {P:Program} {st:St} {x:ResultVar} {v:V} (h:eH P st x=some v):(Vf P st x).1∧(Vf P st x).2=v:=by
 cases x with
 | tmp t=>simp only [eH,Option.some.injEq]at h;exact⟨trivial,h⟩
 | cell t T=>
   simp only [eH]at h
   split at h
   ·rename_i l u hl
    injection h with h;subst h
    have:=RO hl
    exact⟨this.2.1,this.2.2⟩
   ·cases h
theorem Nv {P:Program} {st:St}: ∀ {xs:List ResultVar} {vs:List V},TT P st xs=some vs→(Jz P st xs).1∧(Jz P st xs).2=vs
 | [],vs,h=>by simp only [TT,Option.some.injEq]at h;subst h;exact⟨trivial,rfl⟩
 | x::xs,vs,h=>by
   simp only [TT]at h
   split at h
   ·rename_i v us h1 h2
    injection h with h;subst h
    have a:=OX h1
    have b:=Nv h2
    exact⟨⟨a.1,b.1⟩,by simp only [Jz,a.2,b.2]⟩
   ·cases h
theorem Yv {P:Program} {st:St} {xs:List ResultVar} {v:V} (h:R5 P st xs=some v):(HQ P st xs).1∧(HQ P st xs).2=v:=by
 match xs with
 | [x]=>exact OX h
 | []=>simp only [R5,TT,Option.some.injEq]at h;subst h;exact⟨trivial,rfl⟩
 | x::y::xs=>
   simp only [R5]at h
   split at h
   ·rename_i vs hv
    injection h with h;subst h
    have:=Nv hv
    exact⟨this.1,by simp only [HQ,this.2]⟩
   ·cases h
theorem Yw {P:Program} {st:St} {x:ResultVar}:(Vd P st x).1=(Vf P st x).1∧(Vd P st x).2=De st (Vf P st x).2:=by cases x<;>exact⟨rfl,rfl⟩
theorem Wa {P:Program} {st:St}: ∀ {xs:List ResultVar},(KI P st xs).1=(Jz P st xs).1∧(KI P st xs).2=(Jz P st xs).2.map (De st)
 | []=>⟨rfl,rfl⟩
 | x::xs=>by
   have a:=Yw (P:=P) (st:=st) (x:=x)
   have b:=Wa (P:=P) (st:=st) (xs:=xs)
   simp only [KI,Jz,a.1,a.2,b.1,b.2,List.map_cons,and_self]
def eJ (st:St) (rs:List ResultVar):V→V
 | .tup vs=>match rs with
   | [_]=> .tup vs
   | _=> .tup (vs.map (De st))
 | v=>De st v
theorem bD {P:Program} {st:St} {rs:List ResultVar} {v r:V} {e:Exit} (he:e= .normal ∨e= .ret) (h:R5 P st rs=some v) (hs:eJ st rs v=r) (hp:r.pure=true) {r':V} (hr:r=r'):
 (e= .normal ∨e= .ret)∧(HP P st rs).1∧(HP P st rs).2.pure =true∧(HP P st rs).2=r':=by
 subst hr
 have key:(HP P st rs).1∧(HP P st rs).2=r:=by
  match rs with
  | [x]=>
    have a:=OX h
    have b:=Yw (P:=P) (st:=st) (x:=x)
    simp only [HP]
    rw [b.1,b.2,a.2, ←hs]
    exact⟨a.1,by cases v<;>rfl⟩
  | []=>
    simp only [R5,TT,Option.some.injEq]at h
    subst h;subst hs
    exact⟨trivial,rfl⟩
  | x::y::xs=>
    simp only [R5]at h
    split at h
    ·rename_i vs hv
     injection h with h;subst h
     have a:=Nv hv
     have b:=Wa (P:=P) (st:=st) (xs:=x::y::xs)
     simp only [HP]
     rw [b.1,b.2,a.2, ←hs]
     exact⟨a.1,rfl⟩
    ·cases h
 exact⟨he,key.1,by rw [key.2];exact hp,key.2⟩
def OC:List Bool→List V→List V
 | [],_=>[]
 | true::m,v::vs=>v::OC m vs
 | false::m,_::vs=> .undef ::OC m vs
 | _::_,[]=>[]
def PA:List Bool→List CT→List CT
 | true::m,e::es=>e::PA m es
 | false::m,_::es=>PA m es
 | _,_=>[]
theorem Wb: ∀ {m:List Bool} {l l':List V},m.length=l.length→OC m l=l'→M3 l l'
 | [],[],l',_,h=>by simp only [OC]at h;subst h;trivial
 | true::m,v::vs,l',hl,h=>by simp only [OC]at h;subst h;exact⟨.inr rfl,Wb (by simpa using hl) rfl⟩
 | false::m,v::vs,l',hl,h=>by simp only [OC]at h;subst h;exact⟨.inl rfl,Wb (by simpa using hl) rfl⟩
 | [],_::_,_,hl,_=>by simp at hl
 | _::_,[],_,hl,_=>by simp at hl
theorem N4: ∀ (m:List Bool) (l:List CT),(PA m l).Sublist l
 | [],l=>by simp [PA]
 | true::m,[]=>by simp [PA]
 | false::m,[]=>by simp [PA]
 | true::m,e::es=>by simp only [PA];exact(N4 m es).cons_cons _
 | false::m,e::es=>by simp only [PA];exact(N4 m es).cons _
def mg (m g:List Bool) (e:List Bool) (st:St):St:=⟨OC m st.tm,PA e st.so,OC g st.gh,st.pre⟩
theorem D4.mask (m g e:List Bool) {st st':St} (hm:Nat.beq m.length st.tm.length=true) (hg:Nat.beq g.length st.gh.length=true) (h:mg m g e st=st'):D4 st st':=by
 subst h
 have a:=(Wb (m:=m) (l:=st.tm) (by simpa using hm) rfl).get
 have b:=(Wb (m:=g) (l:=st.gh) (by simpa using hg) rfl).get
 exact⟨a.1,a.2,fun _ he=>(N4 _ _).subset he,fun hn=>List.Sublist.nodup (List.Sublist.map (fun d:CT=>d.id) (N4 _ _)) hn,b,rfl⟩
section
variable {P:Program} {F:Fr} {st:St}
end
theorem Fa {α β γ:Type} {f:α→γ} {g:β→γ} {a:α} {r:γ} (h:Sum.elim f g (.inl a)=r):f a=r:=h
theorem EL {α β γ:Type} {f:α→γ} {g:β→γ} {a:β} {r:γ} (h:Sum.elim f g (.inr a)=r):g a=r:=h
def FU:Nat:=9223372036854775807
theorem I5 {α:Type} [Inhabited α] {l:List α} {i:Int} {x:α} {e:α→List C} {N:Nat} {o n base:Nat} {ag:Bool} {v:V} {off:Nat} {cs pre post:List C} (hcs:cs=pre++(l.flatMap e++post)) (hb:pre.length=base) (hx:idx l i=some x) (hN: ∀ y,(e y).length =N) (hoff:off=base+(i.toNat*N+o)) (ho:o+n≤N) (h0:ag=true∨0<n)
 (hv:Me ag o n (e x)=v):off+n≤cs.length∧Me ag off n cs=v:=by
 obtain⟨h1,h2⟩:=bB hx hN rfl ho h0 hv
 subst hcs hoff hb
 constructor
 ·simp only [List.length_append];omega
 ·rw [←h2]
  unfold Me
  cases ag with
  | true=>
    simp only [if_true]
    rw [←List.drop_drop,List.drop_left,List.drop_append_of_le_length (by omega),List.take_append_of_le_length (by simp only [List.length_drop];omega)]
  | false=>
    simp only [Bool.false_eq_true,if_false]
    have h3:0<n:=by rcases h0 with h | h<;>first | (cases h;done) | exact h
    simp only [List.getD_eq_getElem?_getD]
    rw [List.getElem?_append_right (by omega),Nat.add_sub_cancel_left,List.getElem?_append_left (by omega)]
end Go.PL
namespace Go.PL
open Go Go.RowKit
def FQ (n k:Nat):List Bool:=(List.range k).map (Nat.testBit n)
theorem db (n k:Nat):(FQ n k).length =k:=by simp [FQ]
theorem Wc (n k i:Nat):(FQ n k).toArray.setIfInBounds i true=(FQ (n||| 2 ^ i) k).toArray :=by
 apply Array.ext
 ·simp [FQ]
 ·intro j h1 h2
  have hj:j<k:=by simpa [FQ] using h2
  have e:((FQ n k).toArray.setIfInBounds i true).toList =(FQ n k).set i true:=by simp
  have e2:((FQ n k).toArray.setIfInBounds i true)[j]=((FQ n k).set i true)[j]'(by simp [FQ,hj]):=by simp [←Array.getElem_toList]
  rw [e2,List.getElem_set]
  simp only [FQ,List.getElem_toArray,List.getElem_map,List.getElem_range,Nat.testBit_or,Nat.testBit_two_pow]
  split
  ·rename_i h;simp [h]
  ·rename_i h;simp [h]
def R6 (ops:Array Oper) (n:Nat):List Nat:=Region.ready .any ops (FQ n ops.size).toArray
def S2 (ops:Array Oper) (nodes:List Nat):Bool:=
 nodes.contains 0&&nodes.all fun n=>(!(R6 ops n).isEmpty ||(FQ n ops.size).all id)&&(R6 ops n).all fun i=>nodes.contains (n||| 2 ^ i)
def Yx (ids:List Cz) (st:St):St:={st with so:=ids.filterMap fun i=>st.so.find? fun e=>e.id==i}
theorem QP (ids:List Cz) (hn:ids.Nodup) (st:St):D4 st (Yx ids st) where
 len:=rfl
 tm:=fun _=> .inr rfl
 so:=fun e he=>by
  simp only [Yx,List.mem_filterMap]at he
  obtain⟨i,_,h⟩:=he
  exact List.mem_of_find?_eq_some h
 nd:=fun _=>by
  have: ∀ ids:List Cz,((ids.filterMap fun i=>st.so.find? fun e=>e.id==i).map (·.id)).Sublist ids:=by
   intro ids
   induction ids with
   | nil=>simp
   | cons i ids ih=>
     simp only [List.filterMap_cons]
     split
     ·exact ih.cons _
     ·rename_i e he
      have:=List.find?_some he
      simp only [beq_iff_eq]at this
      simp only [List.map_cons,this]
      exact ih.cons_cons _
  exact List.Sublist.nodup (this ids) hn
 gh:=⟨rfl,fun _=> .inr rfl⟩
 pre:=rfl
def Yy (P:Program) (I:World→Prop) (ops:Array Oper) (ss:List Stp) (ids:List Cz) (st:St) (i:Nat):Option (List Prop×St):=
 match ops[i]?,ss[i]? with
 | some o,some s=>match KK P I false ops o s st with
   | some (c,st')=>some (c,Yx ids st')
   | none=>none
 | _,_=>none
def mh (P:Program) (I:World→Prop) (ops:Array Oper) (ss:List Stp) (ids:List Cz) (SL:Nat→St) (nodes:List Nat):List (Option (List Prop×St)):=
 nodes.flatMap fun n=>(R6 ops n).map fun i=>Yy P I ops ss ids (SL n) i
def jm (ops:Array Oper) (cs:List (List Prop)) (SL:Nat→St) (nodes:List Nat):List (Option (List Prop×St)):=
 nodes.flatMap fun n=>(R6 ops n).map fun i=>some (cs.getD i [],SL (n||| 2 ^ i))
theorem bG {α β:Type} {f g:α→Nat→β} {r:α→List Nat}: ∀ {l:List α},(l.flatMap fun n=>(r n).map (f n))=(l.flatMap fun n=>(r n).map (g n))→ ∀ n∈l, ∀ i∈r n,f n i=g n i
 | [],_,n,hn,_,_=>by simp at hn
 | a::l,h,n,hn,i,hi=>by
   simp only [List.flatMap_cons]at h
   have hh:=List.append_inj h (by simp)
   rcases List.mem_cons.1 hn with rfl | hn
   ·have:=hh.1
    have:=List.map_inj_left.1 this
    exact this i hi
   ·exact bG hh.2 n hn i hi
def PB:List (List Prop)→Prop
 | []=>True
 | l::ls=>BA l∧PB ls
theorem QQ: ∀ {cs:List (List Prop)},PB cs→ ∀ i,BA (cs.getD i [])
 | [],_,i=>by simp [BA]
 | l::ls,h,0=>by simpa using h.1
 | l::ls,h,i+1=>by simpa using QQ h.2 i
section
variable {P:Program} {F:Fr} {st:St} {ops:Array Oper}
theorem Wd {a:Act} {w:World} {G:B0} (h:R F st a w G) {o:Oper} {K:St→Prop} {Q:Exit→Act→World→Prop} (hs:dR P F.I ops o st K):
 if Region.wanted o (yielded ops a.tmps)=true then o.wp P a w (dP F K) Q else dP F K (a.put o.dst Go.undef) w:=by
 unfold dR at hs
 split at hs
 ·rename_i hg
  rw [Ns hg,if_pos rfl]
  exact N3 h hs
 ·rename_i j want hg
  split at hs
  ·rename_i g hq
   rw [KG h hg hq]
   exact V2 h hs
  ·exact hs.elim
def eK (l:List Bool):Nat:=(l.filter (! ·)).length
theorem Xb: ∀ (l:List Bool) (i:Nat),l[i]? =some false→eK (l.set i true)+1=eK l
 | [],i,h=>by simp at h
 | b::l,0,h=>by simp at h;subst h;simp [eK]
 | b::l,i+1,h=>by
   have:=Xb l i (by simpa using h)
   cases b<;>simp_all [eK]<;>omega
theorem Yz: ∀ (l:List Bool),eK l=0→l.all id=true
 | [],_=>rfl
 | true::l,h=>by simp [eK]at h ⊢;simpa using h
 | false::l,h=>by simp [eK]at h
theorem oz {nodes:List Nat} {ss:List Stp} {ids:List Cz} {cs:List (List Prop)} {SL:Nat→St} {Q:Exit→St→Prop} (hcl:S2 ops nodes=true) (hids:ids.Nodup)
 (hst:mh P F.I ops ss ids SL nodes=jm ops cs SL nodes) (hc:PB cs) (hQ: ∀ n∈nodes,(FQ n ops.size).all id=true→Q .normal (SL n)):
 ∀ (fuel n:Nat) (a:Act) (w:World) (G:B0),n∈nodes→eK (FQ n ops.size)≤fuel→R F (SL n) a w G→
   wpAny P .any ops (fun e a' w'=> ∃ st' G',Q e st'∧R F st' a' w' G') fuel (FQ n ops.size).toArray a w:=by
 simp only [S2,Bool.and_eq_true,List.all_eq_true,Bool.or_eq_true,Bool.not_eq_true',List.contains_iff_mem]at hcl
 have hall:=bG (r:=R6 ops) hst
 have rdyFalse: ∀ n i,i∈R6 ops n→(FQ n ops.size)[i]? =some false:=by
  intro n i hi
  unfold R6 Region.ready at hi
  simp only [List.mem_filter,List.mem_range,Bool.and_eq_true,Bool.not_eq_true']at hi
  obtain⟨h1,h2,_⟩:=hi
  have hlt:i<(FQ n ops.size).length :=by rw [db];exact h1
  rw [List.getElem?_eq_getElem hlt]
  simp [Array.getD_eq_getD_getElem?,hlt]at h2
  rw [h2]
 intro fuel
 induction fuel with
 | zero=>
   intro n a w G hn hu hR
   have hz:=Yz _ (Nat.le_zero.1 hu)
   have hr:R6 ops n=[]:=by
    rcases hrr:R6 ops n with _ | ⟨i,r⟩
    ·rfl
    ·have:=rdyFalse n i (by rw [hrr];simp)
     rw [List.all_eq_true]at hz
     have:=hz false (List.mem_of_getElem? this)
     simp at this
   exact⟨hr,_,G,hQ n hn hz,hR⟩
 | succ fuel ih=>
   intro n a w G hn hu hR
   refine⟨fun hr=>?_,fun i hi=>?_⟩
   ·have h2:=(hcl.2 n hn).1
    rcases h2 with h2 | h2
    ·have:(R6 ops n).isEmpty =true:=by rw [show R6 ops n=[] from hr];rfl
     rw [this]at h2;cases h2
    ·exact⟨_,G,hQ n hn (by rw [List.all_eq_true];exact h2),hR⟩
   ·have hi':i∈R6 ops n:=hi
    have hstep:=hall n hn i hi'
    unfold Yy at hstep
    split at hstep
    ·rename_i o s ho hs
     split at hstep
     ·rename_i c st' hss
      simp only [Option.some.injEq,Prod.mk.injEq]at hstep
      obtain⟨hcc,hst'⟩:=hstep
      have hwp:=Pz (K:=fun s'=>D4 s' (SL (n||| 2 ^ i))) hss (hcc▸QQ hc i) (hst'▸QP ids hids st')
      have hw:=Wd (Q:=fun e a' w'=> ∃ st' G',Q e st'∧R F st' a' w' G') hR hwp
      have hnext: ∀ a' w',dP F (fun s'=>D4 s' (SL (n||| 2 ^ i))) a' w'→wpAny P .any ops (fun e a' w'=> ∃ st' G',Q e st'∧R F st' a' w' G') fuel ((FQ n ops.size).toArray.setIfInBounds i true) a' w':=by
       intro a' w' ⟨s',G',hl,hR'⟩
       rw [Wc]
       refine ih (n||| 2 ^ i) a' w' G' ((hcl.2 n hn).2 i hi') ?_ (hR'.less hl)
       have hb:=rdyFalse n i hi'
       have e:FQ (n||| 2 ^ i) ops.size=(FQ n ops.size).set i true:=by
        have:=congrArg Array.toList (Wc n ops.size i)
        simpa using this.symm
       have:=Xb _ i hb
       rw [←e]at this
       omega
      unfold wpOp
      rw [ho]
      simp only
      by_cases hwt:Region.wanted o (yielded ops a.tmps)=true
      ·rw [if_pos hwt]at hw ⊢
       exact .inl (Oper.wp_mono hnext hw)
      ·rw [if_neg hwt]at hw ⊢
       exact hnext _ _ hw
     ·cases hstep
    ·cases hstep
theorem Ai.regN {rid:Nat} {l:List Oper} {Q:Exit→St→Prop} (nodes:List Nat) (full:Nat) (ss:List Stp) (ids:List Cz) (SL:Nat→St) (cs:List (List Prop)) (h1:P.follows .mixedOrders =true) (hcl:S2 l.toArray nodes=true) (hfull:(nodes.all fun n=> !(FQ n l.length).all id||Nat.beq n full)=true) (hids:ids.Nodup)
 (h0:D4 st (SL 0)) (hst:mh P F.I l.toArray ss ids SL nodes=jm l.toArray cs SL nodes) (hc:PB cs) (hQ:Q .normal (SL full)):Ai P F (.region rid l.toArray true) st Q:=by
 intro a w G hR
 refine wp_region_any h1 ?_
 have hR':=(hR.less h0).same (w':={w with drawn:=w.drawn+1}) ⟨rfl,rfl,rfl⟩ ⟨Nat.le_refl _,fun _ _=>rfl⟩
 have h0':FQ 0 l.toArray.size=List.replicate l.toArray.size false:=by
  apply List.ext_getElem<;>simp [FQ]
 have key:=oz (P:=P) (ops:=l.toArray) (Q:=Q) hcl hids hst hc (fun n hn hall=>by
  have:=List.all_eq_true.1 hfull n hn
  simp only [Bool.or_eq_true,Bool.not_eq_true']at this
  rcases this with this | this
  ·have:(FQ n l.length).all id=true:=by simpa using hall
   simp_all
  ·rw [Nat.eq_of_beq_eq_true this];exact hQ) l.toArray.size 0 a _ G (by
   simp only [S2,Bool.and_eq_true,List.contains_iff_mem]at hcl
   exact hcl.1) (by
   rw [h0'];simp [eK]) hR'
 rw [h0']at key
 simpa using key
end
end Go.PL
namespace Go.PL
open Go Go.RowKit
section
variable {P:Program} {I:World→Prop} {ops:Array Oper} {st st':St} {K:St→Prop}
theorem We: ∀ {l:List Oper} {n:Nat} {ss:List Stp} {st st':St} {cs:List Prop},GT P I false ops (l.take n) ss st=some (cs,st')→BA cs→Cm P I ops (l.drop n) st' K→Cm P I ops l st K
 | l,0,ss,st,st',cs,h,hc,hK=>by
   cases ss with
   | nil=>
     simp only [List.take_zero,GT,Option.some.injEq,Prod.mk.injEq]at h
     obtain⟨rfl,rfl⟩:=h
     simpa using hK
   | cons=>simp [GT]at h
 | [],n+1,ss,st,st',cs,h,hc,hK=>by
   cases ss with
   | nil=>
     simp only [List.take_nil,GT,Option.some.injEq,Prod.mk.injEq]at h
     obtain⟨rfl,rfl⟩:=h
     simpa using hK
   | cons=>simp [GT]at h
 | o::l,n+1,[],st,st',cs,h,hc,hK=>by simp [GT]at h
 | o::l,n+1,s::ss,st,st',cs,h,hc,hK=>by
   simp only [List.take_succ_cons,GT]at h
   split at h
   ·rename_i l1 st1 h1
    split at h
    ·rename_i l2 st2 h2
     simp only [Option.some.injEq,Prod.mk.injEq]at h
     obtain⟨rfl,rfl⟩:=h
     obtain⟨q1,q2⟩:=Av.1 hc
     exact Pz (K:=fun s=>Cm P I ops l s K) h1 q1 (We h2 q2 (by simpa using hK))
    ·cases h
   ·cases h
theorem Run.part {l:List Oper} (n:Nat) {ss:List Stp} {cs:List Prop} (st':St) (h:GT P I false ops (l.take n) ss st=some (cs,st')) (hc:BA cs) (hK:Cm P I ops (l.drop n) st' K):Cm P I ops l st K:=We h hc hK
theorem Run.whole {l:List Oper} {ss:List Stp} {cs:List Prop} (st':St) (h:GT P I false ops l ss st=some (cs,st')) (hc:BA cs) (hK:K st'):Cm P I ops l st K:=Xa h hc hK
theorem Run.inl {l rest:List Oper} {o:Oper} (hl:l=o::rest) (hg:o.guard=none) (h:EB P I o st (fun st'=>Cm P I ops rest st' K)):Cm P I ops l st K:=by
 subst hl
 simp only [Cm,dR,hg]
 exact .inl h
theorem Run.inlJ {X:Type} (S:X→St) (Φ:X→Prop) {l rest:List Oper} {o:Oper} (hl:l=o::rest) (hg:o.guard=none) (h:EB P I o st (fun st'=> ∃ v,Φ v∧D4 st' (S v))) (hK: ∀ v,Φ v→Cm P I ops rest (S v) K):Cm P I ops l st K:=
 Run.inl hl hg fun F a w G Q hI hR=>Oper.wp_mono (fun _ _ ⟨_,G',⟨v,hv,hl⟩,hR'⟩=>⟨S v,G',hK v hv,hR'.less hl⟩) (h F a w G Q hI hR)
theorem bq.ret {rs:List ResultVar} {m:Nat} {pre:Cz} {d:Option Nat} {v:V} (h:R5 P st rs=some v) (hK:K (st.back m pre d v)):bq P rs m pre d K .ret st:=by
 have:=Yv h
 exact⟨this.1,by rw [this.2];exact hK⟩
theorem bq.normal {rs:List ResultVar} {m:Nat} {pre:Cz} {d:Option Nat} {v:V} (h:R5 P st rs=some v) (hK:K (st.back m pre d v)):bq P rs m pre d K .normal st:=by
 have:=Yv h
 exact⟨this.1,by rw [this.2];exact hK⟩
end
end Go.PL
namespace Go.PL
open Go Go.RowKit
def QR (l:List Int):List UInt8:=l.map fun n=>UInt8.ofNat n.toNat
end Go.PL
namespace Go.PL
open Go Go.RowKit
theorem TU {α:Type} (e:α→List C) {N:Nat} (hN: ∀ y,(e y).length =N): ∀ (l:List α) (k:Nat) (x:α),l[k]? =some x→l.flatMap e=(l.take k).flatMap e++(e x++(l.drop (k+1)).flatMap e)∧((l.take k).flatMap e).length =k*N
 | [],k,x,h=>by simp at h
 | a::l,0,x,h=>by simp at h;subst h;simp
 | a::l,k+1,x,h=>by
   obtain⟨h1,h2⟩:=TU e hN l k x (by simpa using h)
   constructor
   ·rw [List.flatMap_cons,h1];simp [List.append_assoc]
   ·simp [h2,hN,Nat.add_mul];omega
theorem Wf {α:Type} (e:α→List C): ∀ (l:List α) (k:Nat) (x':α),k<l.length→(l.set k x').flatMap e=(l.take k).flatMap e++(e x'++(l.drop (k+1)).flatMap e)
 | [],k,x,h=>by simp at h
 | a::l,0,x,h=>by simp
 | a::l,k+1,x,h=>by
   rw [List.set_cons_succ,List.flatMap_cons,Wf e l k x (by simpa using h)]
   simp [List.append_assoc]
theorem kp {α:Type} [Inhabited α] {l:List α} {i:Int} {x x':α} {e:α→List C} {N o off:Nat} {cs pre post:List C} (hx:idx l i=some x) (hN: ∀ y,(e y).length =N) (hoff:off=pre.length+(i.toNat*N+o)) (ho:o+cs.length≤N)
 (hx':(e x).take o++(cs++(e x).drop (o+cs.length))=e x'):off+cs.length≤(pre++(l.flatMap e++post)).length ∧
  (pre++(l.flatMap e++post)).take off++cs++(pre++(l.flatMap e++post)).drop (off+cs.length)=pre++((l.set i.toNat x').flatMap e++post):=by
 have hb:=Bm hx
 have hlt:i.toNat<l.length:=by omega
 have hk:l[i.toNat]? =some x:=by
  rw [jj hx,List.getElem?_eq_getElem hlt,List.getD_eq_getElem?_getD,List.getElem?_eq_getElem hlt];rfl
 obtain⟨h1,h2⟩:=TU e hN l i.toNat x hk
 have h3:=Wf e l i.toNat x' hlt
 have hex:=hN x
 rw [h1,h3, ←hx']
 subst hoff
 generalize (l.take i.toNat).flatMap e=A at *
 generalize (l.drop (i.toNat+1)).flatMap e=B at *
 generalize e x=X at *
 constructor
 ·simp only [List.length_append];omega
 ·have e1:pre++(A++(X++B)++post)=(pre++(A++X.take o))++((X.drop o).take cs.length++(X.drop (o+cs.length)++(B++post))):=by
   have:X=X.take o++((X.drop o).take cs.length++X.drop (o+cs.length)):=by
    rw [←List.drop_drop,List.take_append_drop,List.take_append_drop]
   conv=>lhs;rw [this]
   simp only [List.append_assoc]
  have l1:(pre++(A++X.take o)).length =pre.length+(i.toNat*N+o):=by simp only [List.length_append,List.length_take];omega
  have l2:((X.drop o).take cs.length).length =cs.length:=by simp only [List.length_take,List.length_drop];omega
  generalize (X.drop o).take cs.length=M at *
  generalize X.drop (o+cs.length)=Z at *
  rw [e1, ←l1,List.take_left, ←List.drop_drop,List.drop_left, ←l2,List.drop_left]
  simp only [List.append_assoc]
theorem Xc {α:Type} [Inhabited α] {l l':List α} {i:Int} {x x':α} {e:α→List C} {N o off base:Nat} {c0 c1 cs pre post:List C} (hc0:c0=pre++(l.flatMap e++post)) (hb:pre.length=base) (hc1:c1=pre++(l'.flatMap e++post)) (hl:l'=l.set i.toNat x') (hx:idx l i=some x) (hN: ∀ y,(e y).length =N)
 (hoff:off=base+(i.toNat*N+o)) (ho:o+cs.length≤N) (hx':(e x).take o++(cs++(e x).drop (o+cs.length))=e x'):off+cs.length≤c0.length∧c0.take off++cs++c0.drop (off+cs.length)=c1:=by
 subst hc0 hc1 hl hb
 exact kp hx hN hoff ho hx'
end Go.PL
namespace Go.PL
open Go Go.RowKit
def slots:Nat→Nat→List (Nat×V)→List V
 | 0,_,_=>[]
 | n+1,i,[]=> .undef ::slots n (i+1) []
 | n+1,i,(j,v)::l=>match Nat.beq i j with
   | true=>v::slots n (i+1) l
   | false=> .undef ::slots n (i+1) ((j,v)::l)
def V.isDef:V→Bool
 | .undef =>false
 | _=>true
def jo (st st':St):St:=⟨OC (st'.tm.map V.isDef) st.tm,st.so.filter (fun e=>st'.so.any fun e'=>e'.id==e.id),OC (st'.gh.map V.isDef) st.gh,st.pre⟩
def kq (st st':St):Bool:=Nat.beq st'.tm.length st.tm.length&&Nat.beq st'.gh.length st.gh.length
theorem dc {st st':St} (hl:kq st st'=true):D4 st (jo st st'):=by
 simp only [kq,Bool.and_eq_true]at hl
 have a:=(Wb (m:=st'.tm.map V.isDef) (l:=st.tm) (by simpa using Nat.eq_of_beq_eq_true hl.1) rfl).get
 have b:=(Wb (m:=st'.gh.map V.isDef) (l:=st.gh) (by simpa using Nat.eq_of_beq_eq_true hl.2) rfl).get
 exact⟨a.1,a.2,fun _ he=>(List.mem_filter.1 he).1,fun hn=>List.Sublist.nodup (List.Sublist.map (fun d:CT=>d.id) List.filter_sublist) hn,b,rfl⟩
def OD (st st':St):Option St:=match kq st st' with
 | true=>some (jo st st')
 | false=>none
theorem D4.t {st st':St} (h:OD st st'=some st'):D4 st st':=by
 unfold OD at h
 split at h
 ·rename_i hl
  injection h with h
  have q:=dc hl
  rw [h]at q
  exact q
 ·cases h
def RP (o:Option (List Prop×St)) (st':St):Option (List Prop×St):=
 match o with
 | some (cs,st)=>match OD st st' with
   | some s=>some (cs,s)
   | none=>none
 | none=>none
theorem TV {o:Option (List Prop×St)} {st':St} {cs:List Prop} (h:RP o st'=some (cs,st')): ∃ st,o=some (cs,st)∧D4 st st':=by
 unfold RP at h
 split at h
 ·rename_i cs' st
  split at h
  ·rename_i s hs
   simp only [Option.some.injEq,Prod.mk.injEq]at h
   obtain⟨rfl,rfl⟩:=h
   exact⟨st,rfl,D4.t hs⟩
  ·cases h
 ·cases h
section
variable {P:Program} {F:Fr} {st:St}
theorem Ai.rg {id:Nat} {l:List Oper} {c:Code} {Q:Exit→St→Prop} {ss:List Stp} {cs:List Prop} (st':St) (hr:RP (GT P F.I false l.toArray l ss st) st'=some (cs,st')) (hl:BA cs) (h:Ai P F c st' Q):Ai P F (.seq (.region id l.toArray false) c) st Q:=by
 obtain⟨st1,h1,h2⟩:=TV hr
 exact Ai.seq (Ai.reg h1 hl (Ai.less h2 h))
theorem Ai.rgQ {id:Nat} {l:List Oper} {c:Code} {Q:Exit→St→Prop} {ss:List Stp} {cs:List Prop} (st':St) (h1:P.follows .mixedOrders =true) (h2:Region.lexB .any l.toArray=true) (hr:RP (GT P F.I true l.toArray l ss st) st'=some (cs,st')) (hl:BA cs) (h:Ai P F c st' Q):Ai P F (.seq (.region id l.toArray true) c) st Q:=by
 obtain⟨st1,h3,h4⟩:=TV hr
 exact Ai.seq (Ai.regQ h1 h2 h3 hl (Ai.less h4 h))
end
abbrev vI (n:Int):V:= .c (.int .i64 n)
abbrev vB (b:Bool):V:= .c (.bool b)
abbrev vS (s:List UInt8):V:= .c (.str s)
abbrev vP (i:Cz) (o:Nat):V:= .c (.ptr i o)
abbrev vO (i:Cz):V:= .c (.osl i)
abbrev vL {α:Type} (e:α→List C) (l:List α):V:= .c (.sl l.length (l.flatMap e))
abbrev vX {α:Type} (e:α→List C) (l:List α) (o:Nat):V:= .c (.iptr (l.flatMap e) o)
abbrev vA {α:Type} (e:α→List C) (x:α):V:= .agg (e x)
abbrev bx (i:Cz) (cs:List C):CT:=⟨i,none,cs,false⟩
abbrev Bl {α:Type} (i:Cz) (E N:Nat) (e:α→List C) (l:List α):CT:=⟨i,some (E,N,l.length),l.flatMap e,true⟩
end Go.PL
namespace Go.PL
theorem gT {p:Bool} (h:p=true):(p==true)=true:=by subst h;rfl
theorem gF {p:Bool} (h:p=false):(p==false)=true:=by subst h;rfl
theorem gA {p q:Bool} (h:p=true) (k:q=true):(p&&q)=true:=by subst h;subst k;rfl
end Go.PL
namespace Go.PL
open Go Go.RowKit
def St.setCell (st:St) (i:Cz) (j:Nat) (c:C):St:={st with so:=st.so.map fun e=>if e.id==i&& !e.pu then⟨e.id,e.row,e.cs.set j c,false⟩else e}
def St.nilAt (st:St) (i:Cz) (j:Nat):Bool:=
 match st.look i with
 | some e=> !e.pu&&(match e.cs[j]? with
   | some .nils =>true
   | _=>false)
 | none=>false
theorem OY {w:World} {G:B0}: ∀ {cs:List C} {b o j:Nat} {c:C},A0 w G cs b o→(∀ v d,cs[j]? =some d→As w G d v→As w G c v)→A0 w G (cs.set j c) b o
 | [],_,_,_,_,h,_=>by simpa using h
 | d::cs,b,o,0,c,h,hc=>by
   simp only [A0]at h
   simp only [List.set_cons_zero,A0]
   obtain⟨⟨v,h1,h2⟩,h3⟩:=h
   exact⟨⟨v,h1,hc v d (by simp) h2⟩,h3⟩
 | d::cs,b,o,j+1,c,h,hc=>by
   simp only [A0]at h
   simp only [List.set_cons_succ,A0]
   exact⟨h.1,OY h.2 (fun v d hd=>hc v d (by simpa using hd))⟩
theorem R.setCell {F:Fr} {st:St} {a:Act} {w:World} {G:B0} (h:R F st a w G) {i k:Cz} {j:Nat} (hn:st.nilAt i j=true) (hk:G.own k=some (.slice none 0 0)):R F (st.setCell i j (.osl k)) a w G:={
 dfr:=h.dfr,size:=h.size,slots:=h.slots,ghosts:=h.ghosts
 store:=by
  intro e' he'
  simp only [St.setCell,List.mem_map]at he'
  obtain⟨e,he,rfl⟩:=he'
  split
  ·rename_i hc
   simp only [Bool.and_eq_true,beq_iff_eq,Bool.not_eq_true']at hc
   have hE:=h.store e he
   have hee: ∃ x,st.look i=some x∧x=e:=by
    unfold St.nilAt at hn
    cases hl:st.look i with
    | none=>rw [hl]at hn;cases hn
    | some x=>
      refine⟨x,rfl,?_⟩
      obtain⟨hm,hid⟩:=DA hl
      have hp:=List.pairwise_map.1 h.nodup
      rcases List.mem_iff_getElem.1 hm with ⟨p,hp1,rfl⟩
      rcases List.mem_iff_getElem.1 he with ⟨q,hq1,rfl⟩
      rcases Nat.lt_trichotomy p q with z | z | z
      ·exact absurd (hid.trans hc.1.symm) (List.pairwise_iff_getElem.1 hp p q hp1 hq1 z)
      ·subst z;rfl
      ·exact absurd (hc.1.trans hid.symm) (List.pairwise_iff_getElem.1 hp q p hq1 hp1 z)
   obtain⟨x,hx,rfl⟩:=hee
   have hnil:x.cs[j]? =some .nils :=by
    unfold St.nilAt at hn
    rw [hx]at hn
    simp only [Bool.and_eq_true]at hn
    have:=hn.2
    split at this
    ·assumption
    ·cases this
   have hc': ∀ v d,x.cs[j]? =some d→As w G d v→As w G (.osl k) v:=by
    intro v d hd hr
    rw [hnil]at hd
    injection hd with hd;subst hd
    simp only [As]at hr ⊢
    subst hr
    exact⟨hk,rfl⟩
   unfold HN at hE ⊢
   simp only
   split at hE
   ·rename_i hrn
    obtain⟨b,h1,hbx⟩:=hE
    obtain⟨T,cur,h2,h3,h4⟩:=hbx.cells (Pm hx hrn)
    exact⟨b,h1, .inr ⟨T,cur,h2,by simpa using h3,OY h4 hc'⟩⟩
   ·obtain⟨hl,v,h1,h2⟩:=hE
    refine⟨by simpa using hl,v,h1,?_⟩
    rcases h2 with h2 | ⟨b,cap,cur,e1,e2,e3,e4,e5,e6,e7⟩
    ·exact .inl h2
    ·exact .inr ⟨b,cap,cur,e1,e2,e3,e4,e5,e6,OY e7 hc'⟩
  ·exact h.store e he
 pures:=by
  intro e' he'
  simp only [St.setCell,List.mem_map]at he'
  obtain⟨e,he,rfl⟩:=he'
  split
  ·intro hq;cases hq
  ·exact h.pures e he
 nodup:=by
  have:((st.setCell i j (.osl k)).so.map (·.id))=st.so.map (·.id):=by
   simp only [St.setCell,List.map_map]
   apply List.map_congr_left
   intro d _
   simp only [Function.comp]
   split<;>rfl
  rw [this];exact h.nodup
 inj:=h.inj,lt:=h.lt,new:=h.new,wr:=h.wr,avlt:=h.avlt,inv:=h.inv,avold:=h.avold,os:=h.os,tape:=h.tape,output:=h.output,hsize:=h.hsize,ext:=h.ext}
def ac (st:St) (i:Cz) (j:Nat) (k:Cz) (E n:Nat):Option St:=
 match (st.new ⟨k,some (E,n,0),[],true⟩).nilAt i j with
 | true=>some ((st.new ⟨k,some (E,n,0),[],true⟩).setCell i j (.osl k))
 | false=>none
theorem Ai.own {P:Program} {F:Fr} {c:Code} {st:St} {Q:Exit→St→Prop} (i:Cz) (j:Nat) (k:Cz) (E n:Nat) (st':St) (h:ac st i j k E n=some st') (hh:Ai P F c st' Q):Ai P F c st Q:=by
 unfold ac at h
 split at h
 ·rename_i hn
  injection h with h;subst h
  intro a w G hR
  have h1:=hR.nilRow k E n
  exact hh a w _ (h1.setCell hn (by simp [GO]))
 ·cases h
end Go.PL
namespace Go.PL
open Go
theorem BC {x:Int} (h0: -9223372036854775808≤x) (h1:x≤9223372036854775807):Ab x=x:=by
 unfold Ab;rw [IntKind.wrap_i64];omega
theorem Ml {x:Int} (h0:0≤x) (h1:x≤18446744073709551615):IntKind.u64.wrap x=x:=by
 unfold IntKind.wrap
 simp only [IntKind.bits,IntKind.signed,Bool.false_and]
 simp
 omega
theorem de {x:Int} (h0:0≤x) (h1:x≤255):IntKind.u8.wrap x=x:=by
 unfold IntKind.wrap
 simp only [IntKind.bits,IntKind.signed,Bool.false_and]
 simp
 omega
section
variable {σ ρ:Type} {B:σ→Option (σ⊕ρ)}
theorem Eh {n:Nat} {s s':σ} (h:B s=some (.inl s')):iter B (n+1) s=iter B n s':=by simp [iter,h]
theorem DU {n:Nat} {s:σ} {r:ρ} (h:B s=some (.inr r)):iter B (n+1) s=some r:=by simp [iter,h]
theorem YA {S:Nat→σ} {r:ρ} {j:Nat} (hs: ∀ i,i<j→B (S i)=some (.inl (S (i+1)))) (he:B (S j)=some (.inr r)): ∀ (k N i:Nat),i+k=j→k<N→iter B N (S i)=some r
 | 0,N+1,i,hi,_=>by obtain rfl:i=j:=by omega
                    exact DU he
 | k+1,N+1,i,hi,hN=>by rw [Eh (hs i (by omega))];exact YA hs he k N (i+1) (by omega) (by omega)
theorem bH (S:Nat→σ) {r:ρ} (j:Nat) (hj:j<9223372036854775807) (hs: ∀ i,i<j→B (S i)=some (.inl (S (i+1)))) (he:B (S j)=some (.inr r)) {s0:σ} (h0:s0=S 0):iter B FU s0=some r:=by
 subst h0;exact YA hs he j FU 0 (by omega) hj
end
section
variable {α:Type} [Inhabited α] {l:List α} {i:Int}
theorem PC (h:0≤i∧i<l.length):idx l i=some (l.getD i.toNat default):=if_pos h
theorem B8 {k:Nat} (h:k<l.length):idx l (k:Int)=some l[k]:=by
 rw [PC ⟨by omega,by omega⟩]
 simp [List.getD_eq_getElem?_getD,h]
theorem PD (o:Option α):gd true o=o:=if_pos rfl
theorem PE (o:Option α):gd false o=some default:=if_neg (by simp)
end
theorem YB {α:Type} {b:Nat} {l m:List α} (h:(l.length+m.length)*b≤140737488355328∧l.length+m.length≤maxLen):app b l m=some (l++m):=if_pos h
theorem JC {a b:List UInt8} (h:a.length+b.length≤maxLen):cat a b=some (a++b):=if_pos h
theorem Ks {p:Prop} [Decidable p] (h:p):need p=some ():=if_pos h
def gP (n:Int):UInt8:=UInt8.ofNat (48+(n.toNat % 10))
theorem Mm (k u:Nat) (h:u<10 ^ (k+1)):(Lib.decDigits u).length ≤k+1:=by
 induction k generalizing u with
 | zero=>rw [Lib.decDigits,dif_pos (by omega)];simp
 | succ k ih=>
   rw [Lib.decDigits]
   split
   ·simp
   ·have:=ih (u / 10) (by rw [Nat.pow_succ]at h;omega)
    simp;omega
theorem PF {n:Int} (h0: -9223372036854775808≤n) (h1:n≤9223372036854775807):(Lib.itoa n).length ≤21:=by
 unfold Lib.itoa
 split
 ·have:=Mm 19 n.natAbs (by omega);simp;omega
 ·have:=Mm 19 n.toNat (by omega);omega
theorem YC {u:Int} (h0:0≤u):Lib.decDigits u.toNat=(if u / 10=0 then [] else Lib.decDigits (u / 10).toNat)++[gP u]:=by
 conv=>lhs;rw [Lib.decDigits]
 by_cases h:u.toNat<10
 ·rw [dif_pos h,if_pos (by omega),gP,Nat.mod_eq_of_lt h];rfl
 ·have e:u.toNat / 10=(u / 10).toNat :=by omega
  rw [dif_neg h,if_neg (by omega),gP,e]
def df (u:Int) (s:List UInt8):Option ((Int×(List UInt8))⊕((List UInt8))):=
 (if(decide ((0:Int)<u))=true then
  (need (∀ n∈([IntKind.u8.wrap (IntKind.u64.wrap ((48:Int)+(Int.tmod u (10:Int))))]:List (Int)),0≤n∧n<256)).bind fun _=>
  (cat (QR ([IntKind.u8.wrap (IntKind.u64.wrap ((48:Int)+(Int.tmod u (10:Int))))]:List (Int))) s).bind fun s12=>
  some (.inl ((IntKind.u64.wrap (Int.tdiv u (10:Int))),s12))
 else
  some (.inr s))
def Xd (a0:Int):Option ((List UInt8)):=
 (need (∀ n∈([IntKind.u8.wrap (IntKind.u64.wrap ((48:Int)+(Int.tmod a0 (10:Int))))]:List (Int)),0≤n∧n<256)).bind fun _=>
 (iter (fun(v:Int×(List UInt8))=>df v.1 v.2) FU ((IntKind.u64.wrap (Int.tdiv a0 (10:Int))),(QR ([IntKind.u8.wrap (IntKind.u64.wrap ((48:Int)+(Int.tmod a0 (10:Int))))]:List (Int))))).bind (fun o0=>some o0)
def bI (a0:Int):Option ((List UInt8)):=
 (if(decide (a0<(0:Int)))=true then
  (Xd (IntKind.u64.wrap (0 - (IntKind.u64.wrap (a0))))).bind fun r2=>
  (cat [45] r2).bind fun s3=>
  some s3
 else
  (Xd (IntKind.u64.wrap (a0))).bind fun r4=>
  some r4)
theorem bJ {u:Int} (h0:0≤u) (h1:u≤18446744073709551615):IntKind.u8.wrap (IntKind.u64.wrap ((48:Int)+(Int.tmod u (10:Int))))=48+((u.toNat % 10:Nat):Int):=by
 have e:Int.tmod u 10=((u.toNat % 10:Nat):Int):=by
  rw [Int.tmod_eq_emod_of_nonneg h0];omega
 rw [e,Ml (by omega) (by omega),de (by omega) (by omega)]
theorem bK {u:Int} (h0:0≤u) (h1:u≤18446744073709551615):IntKind.u64.wrap (Int.tdiv u (10:Int))=u / 10:=by
 rw [Int.tdiv_eq_ediv_of_nonneg h0,Ml (by omega) (by omega)]
theorem YD {u:Int} (h0:0≤u) (h1:u≤18446744073709551615): ∀ n∈([IntKind.u8.wrap (IntKind.u64.wrap ((48:Int)+(Int.tmod u (10:Int))))]:List (Int)),0≤n∧n<256:=by
 rw [bJ h0 h1]
 intro n hn
 simp at hn
 omega
theorem Wg {u:Int} (h0:0≤u) (h1:u≤18446744073709551615):QR ([IntKind.u8.wrap (IntKind.u64.wrap ((48:Int)+(Int.tmod u (10:Int))))]:List (Int))=[gP u]:=by
 rw [bJ h0 h1]
 simp only [QR,gP,List.map_cons,List.map_nil]
 congr 2
theorem gQ {u:Int} {s:List UInt8} (h0:0<u) (h1:u≤18446744073709551615) (hs:s.length≤1000):df u s=some (.inl (u / 10,gP u::s)):=by
 unfold df
 rw [if_pos (by simpa using h0),Ks (YD (by omega) h1),Wg (by omega) h1,JC (by simp [maxLen];omega),bK (by omega) h1]
 rfl
theorem YE (s:List UInt8):df 0 s=some (.inr s):=by simp [df]
theorem YF: ∀ (k:Nat) (u:Int) (s:List UInt8) (N:Nat),0≤u→u<10 ^ k→u≤18446744073709551615→s.length+k≤1000→k<N→
 iter (fun(v:Int×(List UInt8))=>df v.1 v.2) N (u,s)=some ((if u=0 then [] else Lib.decDigits u.toNat)++s)
 | 0,u,s,N+1,h0,h1,h2,hs,hN=>by
   obtain rfl:u=0:=by simp at h1;omega
   rw [DU (r:=s) (YE s)];rfl
 | k+1,u,s,N+1,h0,h1,h2,hs,hN=>by
   by_cases hu:u=0
   ·subst hu;rw [DU (r:=s) (YE s)];rfl
   ·rw [Eh (s':=(u / 10,gP u::s)) (gQ (by omega) h2 (by show s.length≤1000;omega)),YF k (u / 10) (gP u::s) N (by omega) (by rw [Int.pow_succ]at h1;omega) (by omega) (by simp;omega) (by omega)]
    rw [if_neg hu]
    congr 1
    rw [YC (u:=u) h0,List.append_assoc];rfl
theorem Wh {u:Int} (h0:0≤u) (h1:u≤18446744073709551615):Xd u=some (Lib.decDigits u.toNat):=by
 unfold Xd
 rw [Ks (YD h0 h1),Wg h0 h1,bK h0 h1]
 simp only [Option.bind_some]
 rw [YF 20 (u / 10) [gP u] FU (by omega) (by omega) (by omega) (by simp) (by simp [FU])]
 simp only [Option.bind_some]
 congr 1
 exact(YC h0).symm
theorem YG {n:Int} (h0: -9223372036854775808≤n) (h1:n≤9223372036854775807):bI n=some (Lib.itoa n):=by
 have wu: ∀ x:Int,IntKind.u64.wrap x=x % 18446744073709551616:=by
  intro x
  unfold IntKind.wrap
  simp [IntKind.bits,IntKind.signed]
 unfold bI Lib.itoa
 by_cases hn:n<0
 ·rw [if_pos (by simpa using hn),if_pos hn]
  have e:IntKind.u64.wrap (0 - IntKind.u64.wrap n)= -n:=by rw [wu,wu];omega
  rw [e,Wh (by omega) (by omega)]
  have hl:=Mm 19 (-n).toNat (by omega)
  simp only [Option.bind_some]
  rw [JC (by simp [maxLen];omega)]
  have e2:(-n).toNat =n.natAbs:=by omega
  rw [e2];rfl
 ·rw [if_neg (by simpa using hn),if_neg hn,Ml (by omega) (by omega),Wh (by omega) (by omega)]
  rfl
end Go.PL
namespace Go.PL
open Go Go.RowKit Go.WideShapes Go.ChangeShapes
def DE (k:IntKind) (v:Int):Prop:=(Lit.int k v).wf =true
def Xe (_:Bool):Prop:=True
def lR (v:List UInt8):Prop:=v.length≤reachBytes
def OE {α:Type} (b:Nat) (ok:α→Prop) (l:List α):Prop:=l.length*b≤reachBytes∧ ∀ y∈l,ok y
section
variable {P:Program} {t e:TypeId} {n:Nat} {cs:List C}
theorem dI {k:IntKind} (hu:P.underlying t=some (.int k)) (h:BF P n t cs): ∃ z,cs=eI k z∧DE k z:=cX hu h
theorem dB (hu:P.underlying t=some .bool) (h:BF P n t cs): ∃ b,cs=eB b∧Xe b:=ZZ hu h
theorem dS (hu:P.underlying t=some .string) (h:BF P n t cs): ∃ s,cs=eS s∧lR s:=cY hu h
theorem dL {α:Type} {enc:α→List C} {ok:α→Prop} {b:Nat} (hu:P.underlying t=some (.slice e)) (hb:P.bytesOf e=b) (hd: ∀ {n ds},BF P n e ds→ ∃ x,ds=enc x∧ok x) (h:BF P n t cs):
 ∃ l:List α,cs=eL enc l∧OE b ok l:=eq hu hb (fun _ _=>hd) h
theorem dA {α:Type} {m:Nat} {enc:α→List C} {ok:α→Prop} (hu:P.underlying t=some (.array m e)) (hd: ∀ {n ds},BF P n e ds→ ∃ x,ds=enc x∧ok x) (h:BF P n t cs):
 ∃ l:List α,l.length=m∧cs=l.flatMap enc∧ ∀ y∈l,ok y:=by
 cases n with
 | zero=>exact h.elim
 | succ n=>
   simp only [BF,hu]at h
   obtain⟨dss,rfl,h2,h3⟩:=h
   obtain⟨l,rfl,h5⟩:=TR (fun _=>hd) h3
   exact⟨l,by simpa using h2,by rw [List.flatMap_def],h5⟩
end
section
variable {R:TypeId→List C→Prop}
theorem AB {t:TypeId} {ts:List TypeId} {α β:Type} {e:α→List C} {E:β→List C} {ok:α→Prop} {OK:β→Prop} (hd: ∀ {ds},R t ds→ ∃ x,ds=e x∧ok x) (hr: ∀ {dss},QM R ts dss→ ∃ y,dss.flatten=E y∧OK y) {dss:List (List C)} (h:QM R (t::ts) dss):
 ∃ p:α×β,dss.flatten=e p.1++E p.2∧ok p.1∧OK p.2:=by
 simp only [QM]at h
 obtain⟨ds,r,rfl,h1,h2⟩:=h
 obtain⟨x,rfl,h3⟩:=hd h1
 obtain⟨y,h4,h5⟩:=hr h2
 exact⟨(x,y),by rw [List.flatten_cons,h4],h3,h5⟩
theorem HV {dss:List (List C)} (h:QM R [] dss): ∃ _:Unit,dss.flatten=[]∧True:=by
 simp only [QM]at h
 subst h
 exact⟨(),rfl,trivial⟩
end
section
variable {H:Type} {enc:TypeId×Value→H} {P:Program} {W:World} {spare:Nat→Bool} {r:Reach} {base:Nat} {t:TypeId} {v:Value} {d:DataW H} {ps:List MemPlace}
theorem OZ {ts:List TypeId} {ds:List (DataW H)} (h:(DataW.weightsEach P (t::ts) (d::ds)).all (· ≤reachBytes)=true):(d.weights P t).all (· ≤reachBytes)=true∧(DataW.weightsEach P ts ds).all (· ≤reachBytes)=true:=by
 simpa only [DataW.weightsEach,List.all_append,Bool.and_eq_true] using h
theorem gR {α:Type} {e:α→List C} {ok:α→Prop} {fs:Array Field} (k:Nat) (hk:ep P k t=true) (hu:P.underlying t=some (.struct fs)) (hd: ∀ {n cs},BF P n t cs→ ∃ x,cs=e x∧ok x)
 (hv:Value.okWide P W r base t v) (h:DataW.Trod enc P W 0 spare true t v d ps) (hw:(d.weights P t).all (· ≤reachBytes)=true): ∃ x,ok x∧Ap W (im fun _=>False) (vA e x) v:=by
 obtain⟨arr,rfl,_⟩:=okWide_struct hu hv
 obtain⟨fuel,h⟩:=h
 obtain⟨cs,h1,h2,_⟩:=LU (G:=im fun _=>False) (fun _ _ h=>h) k t hk fuel _ _ h hw
 obtain⟨x,rfl,h4⟩:=hd h2
 exact⟨x,h4,by simp only [Ap];exact⟨arr,rfl,h1⟩⟩
theorem bL {α:Type} {e:α→C} {ok:α→Prop} (k:Nat) (hk:ep P k t=true) (hd: ∀ {n cs},BF P n t cs→ ∃ x,cs=[e x]∧ok x)
 (hc:v.cells.toList=[v]) (h:DataW.Trod enc P W 0 spare true t v d ps) (hw:(d.weights P t).all (· ≤reachBytes)=true): ∃ x,ok x∧Ap W (im fun _=>False) (.c (e x)) v:=by
 obtain⟨fuel,h⟩:=h
 obtain⟨cs,h1,h2,_⟩:=LU (G:=im fun _=>False) (fun _ _ h=>h) k t hk fuel _ _ h hw
 obtain⟨x,rfl,h4⟩:=hd h2
 rw [hc]at h1
 simp only [AD]at h1
 exact⟨x,h4,by simp only [Ap];exact h1.1⟩
theorem gS {k:IntKind} (n:Nat) (hk:ep P n t=true) (hu:P.underlying t=some (.int k))
 (hv:Value.okWide P W r base t v) (h:DataW.Trod enc P W 0 spare true t v d ps) (hw:(d.weights P t).all (· ≤reachBytes)=true): ∃ x,DE k x∧Ap W (im fun _=>False) (.c (.int k x)) v:=by
 obtain⟨z,rfl⟩:=okWide_int hu hv
 exact bL (e:=fun x=> .int k x) n hk (dI hu) rfl h hw
theorem kr {α:Type} {e:α→List C} {ok:List α→Prop} {u:TypeId} (n:Nat) (hk:ep P n t=true) (hu:P.underlying t=some (.slice u)) (hd: ∀ {n cs},BF P n t cs→ ∃ x,cs=eL e x∧ok x)
 (hv:Value.okWide P W r base t v) (h:DataW.Trod enc P W 0 spare true t v d ps) (hw:(d.weights P t).all (· ≤reachBytes)=true): ∃ x,ok x∧Ap W (im fun _=>False) (vL e x) v:=by
 obtain⟨a,len,cap,rfl⟩:=okWide_slice hu hv
 exact bL (e:=fun x:List α=> .sl x.length (x.flatMap e)) n hk hd rfl h hw
end
end Go.PL
namespace Go.PL
open Go
def W {α:Type} (o:Option α) (Q:α→Prop):Prop:= ∃ r,o=some r∧Q r
def LQ {σ ρ:Type} (I:σ→Prop) (m:σ→Nat) (s:σ) (K:ρ→Prop):σ⊕ρ→Prop:=Sum.elim (fun s'=>I s'∧m s'<m s) K
section
variable {α β σ ρ:Type} {o:Option α} {P Q':α→Prop} {f:α→Option β} {Q:β→Prop} {v:α} {g c:Bool}
theorem W.bd (h:W o P) (k: ∀ x,P x→W (f x) Q):W (o.bind f) Q:=by
 obtain⟨r,rfl,h2⟩:=h;exact k r h2
theorem W.lt (k: ∀ x,x=v→W (f x) Q):W ((some v).bind f) Q:=k v rfl
theorem W.if {a b:Option β} (k1:c=true→W a Q) (k2:c=false→W b Q):W (if c=true then a else b) Q:=by
 cases c
 ·exact k2 rfl
 ·exact k1 rfl
theorem W.imp {Q2:α→Prop} (h:W o P) (k: ∀ x,P x→Q2 x):W o Q2:=by obtain⟨r,h1,h2⟩:=h;exact⟨r,h1,k r h2⟩
theorem TW [Inhabited α] {l:List α} {i:Nat} (h:i<l.length):l.getD i default∈l:=by
 rw [List.getD_eq_getElem?_getD,List.getElem?_eq_getElem h]
 exact List.getElem_mem h
theorem W.idx [Inhabited α] {l:List α} {i:Int} (h:0≤i∧i<l.length):W (idx l i) (fun e=>e∈l∧e=l.getD i.toNat default∧idx l i=some e):=
 ⟨_,PC h,TW (by omega),rfl,PC h⟩
theorem W.re (h:o=some v) (k:W (f v) Q):W (o.bind f) Q:=by subst h;exact k
theorem W.app {b:Nat} {l m:List α} (h:(l.length+m.length)*b≤140737488355328) (h2:l.length+m.length≤maxLen):W (app b l m) (fun e=>e=l++m):=⟨_,YB ⟨h,h2⟩,rfl⟩
theorem W.cat {a b:List UInt8} (h:a.length+b.length≤9223372036854775807):W (cat a b) (fun e=>e=a++b∧e.length=a.length+b.length):=⟨_,JC (by unfold maxLen;omega),rfl,List.length_append⟩
theorem W.need {p:Prop} [Decidable p] (h:p):W (need p) (fun _=>True):=⟨_,Ks h,trivial⟩
theorem W.nx {I:σ→Prop} {m:σ→Nat} {s s':σ} {K:ρ→Prop} (h:I s') (h2:m s'<m s):W (some (.inl s':σ⊕ρ)) (LQ I m s K):=⟨_,rfl,h,h2⟩
theorem W.ex {I:σ→Prop} {m:σ→Nat} {s:σ} {K:ρ→Prop} {r:ρ} (h:K r):W (some (.inr r:σ⊕ρ)) (LQ I m s K):=⟨_,rfl,h⟩
theorem eM {B:σ→Option (σ⊕ρ)} {I:σ→Prop} {m:σ→Nat} {K:ρ→Prop} (hs: ∀ s,I s→W (B s) (LQ I m s K)): ∀ (n:Nat) (s:σ),I s→m s<n→W (iter B n s) K
 | 0,_,_,h=>by omega
 | n+1,s,hI,hm=>by
   obtain⟨x,h1,h2⟩:=hs s hI
   cases x with
   | inl s'=>rw [Eh h1];exact eM hs n s' h2.1 (by have:=h2.2;omega)
   | inr r=>rw [DU h1];exact⟨r,rfl,h2⟩
theorem W.it {B:σ→Option (σ⊕ρ)} {f:ρ→Option β} {s0:σ} (I:σ→Prop) (m:σ→Nat) (h0:I s0) (hm:m s0<9223372036854775807) (hs: ∀ s,I s→W (B s) (LQ I m s (fun r=>W (f r) Q))):W ((iter B FU s0).bind f) Q:=by
 obtain⟨r,h1,h2⟩:=eM hs FU s0 h0 hm
 rw [h1]
 exact h2
end
theorem W.sidx {l:List UInt8} {i:Int} (h:0≤i∧i<l.length):W (sidx l i) (fun e=>0≤e∧e<256):=by
 refine⟨_,if_pos h,?_,?_⟩
 ·omega
 ·have:=(l.getD i.toNat 0).toNat_lt
  omega
theorem W.ssub {l:List UInt8} {i j:Int} (h:0≤i∧i≤j∧j≤l.length):W (ssub l i j) (fun e=>(e.length:Int)=j - i):=by
 refine⟨_,if_pos h,?_⟩
 simp only [List.length_take,List.length_drop]
 omega
theorem oA {p:Prop} [Decidable p] {b:Bool}:((if p then true else b)=true)=(p∨b=true):=by by_cases h:p<;>simp [h]
theorem oB {p:Prop} [Decidable p] {b:Bool}:((if p then true else b)=false)=(¬p∧b=false):=by by_cases h:p<;>simp [h]
theorem oC {p:Prop} [Decidable p] {b:Bool}:((if p then b else false)=true)=(p∧b=true):=by by_cases h:p<;>simp [h]
theorem oD {p:Prop} [Decidable p] {b:Bool}:((if p then b else false)=false)=(¬p∨b=false):=by by_cases h:p<;>simp [h]
theorem oE {a:Bool}:((!a)=true)=(a=false):=by cases a<;>simp
theorem oF {a:Bool}:((!a)=false)=(a=true):=by cases a<;>simp
theorem oG {p:Prop} [Decidable p]:(decide p=true)=p:=by simp
theorem oH {p:Prop} [Decidable p]:(decide p=false)= ¬p:=by simp
theorem oI {a b:Int}:((a==b)=true)=(a=b):=by simp
theorem oJ {a b:Int}:((a==b)=false)= ¬(a=b):=by simp
theorem mi {a b:Int}:((a != b)=true)= ¬(a=b):=by simp
theorem mj {a b:Int}:((a != b)=false)=(a=b):=by simp
theorem ml {a:Bool}:((a==true)=true)=(a=true):=by cases a<;>simp
theorem mm {a:Bool}:((a==true)=false)=(a=false):=by cases a<;>simp
theorem mn {a:Bool}:((a==false)=true)=(a=false):=by cases a<;>simp
theorem mo {a:Bool}:((a==false)=false)=(a=true):=by cases a<;>simp
theorem mq {a b:Bool}:((a&&b)=true)=(a=true∧b=true):=by cases a<;>simp
theorem mr {a b:Bool}:((a&&b)=false)=(a=false∨b=false):=by cases a<;>simp
theorem mt {a b:List UInt8}:((a==b)=true)=(a=b):=by simp
theorem mu {a b:List UInt8}:((a==b)=false)= ¬(a=b):=by simp
theorem mv {a b:List UInt8}:((a != b)=true)= ¬(a=b):=by simp
theorem mw {a b:List UInt8}:((a != b)=false)=(a=b):=by simp
theorem my {a:Bool}:(¬(a=true))=(a=false):=by cases a<;>simp
theorem mz {a:Bool}:(¬(a=false))=(a=true):=by cases a<;>simp
theorem mA {p q:Prop}:(¬(p∨q))=(¬p∧ ¬q):=propext not_or
theorem bz:(∀ {p:Prop} [Decidable p] {b:Bool},((if p then true else b)=true)=(p∨b=true))∧(∀ {p:Prop} [Decidable p] {b:Bool},((if p then true else b)=false)=(¬p∧b=false))∧(∀ {p:Prop} [Decidable p] {b:Bool},((if p then b else false)=true)=(p∧b=true))∧(∀ {p:Prop} [Decidable p] {b:Bool},((if p then b else false)=false)=(¬p∨b=false))∧(∀ {a:Bool},((!a)=true)=(a=false))∧(∀ {a:Bool},((!a)=false)=(a=true))∧(∀ {p:Prop} [Decidable p],(decide p=true)=p)∧(∀ {p:Prop} [Decidable p],(decide p=false)= ¬p)∧(∀ {a b:Int},((a==b)=true)=(a=b))∧(∀ {a b:Int},((a==b)=false)= ¬(a=b))∧(∀ {a b:Int},((a != b)=true)= ¬(a=b))∧(∀ {a b:Int},((a != b)=false)=(a=b))∧(∀ {a:Bool},((a==true)=true)=(a=true))∧(∀ {a:Bool},((a==true)=false)=(a=false))∧(∀ {a:Bool},((a==false)=true)=(a=false))∧(∀ {a:Bool},((a==false)=false)=(a=true))∧(∀ {a b:Bool},((a&&b)=true)=(a=true∧b=true))∧(∀ {a b:Bool},((a&&b)=false)=(a=false∨b=false))∧(∀ {a b:List UInt8},((a==b)=true)=(a=b))∧(∀ {a b:List UInt8},((a==b)=false)= ¬(a=b))∧(∀ {a b:List UInt8},((a != b)=true)= ¬(a=b))∧(∀ {a b:List UInt8},((a != b)=false)=(a=b))∧(∀ {a:Bool},(¬(a=true))=(a=false))∧(∀ {a:Bool},(¬(a=false))=(a=true))∧(∀ {p q:Prop},(¬(p∨q))=(¬p∧ ¬q)):=⟨@oA, @oB, @oC, @oD, @oE, @oF, @oG, @oH, @oI, @oJ, @mi, @mj, @ml, @mm, @mn, @mo, @mq, @mr, @mt, @mu, @mv, @mw, @my, @mz, @mA⟩
end Go.PL
namespace Go.PL
open Go
set_option linter.all false
theorem Vh (g q:Bool):gd g (some q)=some (g&&q):=by cases g<;>rfl
theorem O0 (b q:Bool):(if b=true then q else false)=(b&&q):=by cases b<;>rfl
theorem QA (b q:Bool):(if b=true then true else q)=(b||q):=by cases b<;>rfl
theorem bT (b:Bool):(b==true)=b:=by cases b<;>rfl
theorem bF (b:Bool):(b==false)= !b:=by cases b<;>rfl
section
variable {α:Type} [Inhabited α] [DecidableEq α] {l m:List α} {B:Int→Option (Int⊕(Unit⊕Unit))}
end
theorem mB {α:Type} [DecidableEq α] (a b:α):(a==b)=decide (a=b):=by
 by_cases h:a=b
 ·subst h;simp
 ·simp [h]
theorem Lf {α:Type} {b:Nat} {ok:α→Prop} {l:List α} (h:OE b ok l) (hb:1≤b:=by decide):l.length<9223372036854775807:=by
 have h1:=h.1
 have:l.length*1≤l.length*b:=Nat.mul_le_mul_left _ hb
 unfold reachBytes at h1
 omega
theorem gU {α:Type} {b:Nat} {ok:α→Prop} {l:List α} (h:OE b ok l) {i:Nat} (hi:i<l.length):ok l[i]:=h.2 _ (List.getElem_mem hi)
theorem bM (b q:Bool):(if b=true then some false else some q)=some (!b&&q):=by cases b<;>rfl
theorem dT (b q:Bool):(if b=true then some q else some false)=some (b&&q):=by cases b<;>rfl
theorem pq (a b:Bool):(!a|| !(a&&b))=(!a|| !b):=by cases a<;>rfl
section
variable {α:Type} [Inhabited α] [DecidableEq α] {l m:List α} {B:Int→Option (Int⊕(Unit⊕Unit))}
end
theorem PG {α:Type} [Inhabited α] (g:Bool) (x:α):gd g (some x)=some (if g=true then x else default):=by cases g<;>rfl
abbrev T {α:Type} (o:Option α):Prop:= ∃ r,o=some r
theorem dU {α:Type} {c:Bool} {a b:Option α} (h1:T a) (h2:T b):T (if c=true then a else b):=by
 cases c
 ·exact h2
 ·exact h1
theorem mC {σ ρ β:Type} {B:σ→Option (σ⊕ρ)} {S:Nat→σ} {r:ρ} {k:ρ→Option β} {q:Option β} {s0:σ} (j:Nat) (hj:j<9223372036854775807) (h0:s0=S 0) (hs: ∀ i,i<j→B (S i)=some (.inl (S (i+1)))) (he:B (S j)=some (.inr r)) (hk:k r=q):(iter B FU s0).bind k=q:=by
 rw [bH S j hj hs he h0];exact hk
theorem GJ {α:Type} [Inhabited α] {l:List α} {i:Nat} (h:i<l.length):l.getD i default=l[i]:=by
 rw [List.getD_eq_getElem?_getD,List.getElem?_eq_getElem h];rfl
end Go.PL
namespace Go.PL
open Go Go.Lib
set_option linter.all false
end Go.PL
namespace Go.PL
open Go Go.RowKit
theorem aC {p:Prop} {l:List Prop} (h:p) (k:BA l):BA (p::l):=⟨h,k⟩
theorem aN:BA []:=trivial
abbrev sl (n:Nat) (l:List (Nat×V)) (so:List CT):St:=⟨slots n 0 l,so,[],[]⟩
abbrev sg (n:Nat) (l:List (Nat×V)) (so:List CT) (m:Nat) (g:List (Nat×V)) (p:Cz):St:=⟨slots n 0 l,so,slots m 0 g,p⟩
theorem lT {st st':St} (h:OD st st'=some st':=by kernel_rfl):D4 st st':=D4.t h
def O1:List Cz→Bool
 | []=>true
 | i::l=> !(l.contains i)&&O1 l
theorem Nw: ∀ {l:List Cz},O1 l=true→l.Nodup
 | [],_=>by simp
 | i::l,h=>by
   simp only [O1,Bool.and_eq_true,Bool.not_eq_true']at h
   refine List.nodup_cons.2 ⟨fun hm=>?_,Nw h.2⟩
   have:=List.contains_iff_mem.2 hm
   rw [h.1]at this;cases this
theorem D4.trans {a b c:St} (h:D4 a b) (k:D4 b c):D4 a c where
 len:=k.len.trans h.len
 tm:=fun i=>by
  rcases k.tm i with q | q
  ·exact .inl q
  ·rw [q];exact h.tm i
 so:=fun e he=>h.so e (k.so e he)
 nd:=fun hn=>k.nd (h.nd hn)
 gh:=⟨k.gh.1.trans h.gh.1,fun i=>by
  rcases k.gh.2 i with q | q
  ·exact .inl q
  ·rw [q];exact h.gh.2 i⟩
 pre:=k.pre.trans h.pre
def St.ids (st:St):List Cz:=st.so.map (·.id)
theorem lU {st st':St} (hn:O1 st'.ids=true:=by kernel_rfl) (h:OD (Yx st'.ids st) st'=some st':=by kernel_rfl):D4 st st':=(QP _ (Nw hn) st).trans (D4.t h)
section
variable {P:Program} {F:Fr} {st:St} {id:Nat} {l:List Oper} {c:Code} {Q:Exit→St→Prop} {cs:List Prop} {K:St→Prop}
theorem Rg (ss:List Stp) (st':St) (hl:BA cs) (h:Ai P F c st' Q) (hr:RP (GT P F.I false l.toArray l ss st) st'=some (cs,st'):=by kernel_rfl):Ai P F (.seq (.region id l.toArray false) c) st Q:=Ai.rg st' hr hl h
theorem Rq (h1:P.follows .mixedOrders =true) (ss:List Stp) (st':St) (hl:BA cs) (h:Ai P F c st' Q) (h2:Region.lexB .any l.toArray=true:=by kernel_rfl) (hr:RP (GT P F.I true l.toArray l ss st) st'=some (cs,st'):=by kernel_rfl):Ai P F (.seq (.region id l.toArray true) c) st Q:=Ai.rgQ st' h1 h2 hr hl h
theorem Re (ss:List Stp) (st':St) (hl:BA cs) (h:Q .normal st') (hr:GT P F.I false l.toArray l ss st=some (cs,st'):=by kernel_rfl):Ai P F (.region id l.toArray false) st Q:=Ai.reg hr hl h
theorem Rp {I:World→Prop} {ops:Array Oper} (n:Nat) (ss:List Stp) (st':St) (hc:BA cs) (hK:Cm P I ops (l.drop n) st' K) (h:GT P I false ops (l.take n) ss st=some (cs,st'):=by kernel_rfl):Cm P I ops l st K:=Run.part n st' h hc hK
theorem Rw {I:World→Prop} {ops:Array Oper} (ss:List Stp) (st':St) (hc:BA cs) (hK:K st') (h:GT P I false ops l ss st=some (cs,st'):=by kernel_rfl):Cm P I ops l st K:=Run.whole st' h hc hK
theorem Ow (i:Cz) (j:Nat) (k:Cz) (E n:Nat) (st':St) (hh:Ai P F c st' Q) (h:ac st i j k E n=some st':=by kernel_rfl):Ai P F c st Q:=Ai.own i j k E n st' h hh
theorem At (st':St) (hh:Ai P F c st' Q) (h:st=st':=by kernel_rfl):Ai P F c st Q:=h▸hh
theorem bE {rs:List ResultVar} {e:Exit} {r':V} (v r:V) (hr:r=r') (he:e= .normal ∨e= .ret :=by first | exact .inr rfl | exact .inl rfl) (h:R5 P st rs=some v:=by kernel_rfl) (hs:eJ st rs v=r:=by kernel_rfl) (hp:r.pure=true:=by kernel_rfl):
 (e= .normal ∨e= .ret)∧(HP P st rs).1∧(HP P st rs).2.pure =true∧(HP P st rs).2=r':=bD he h hs hp hr
theorem bQ {rs:List ResultVar} {e:Exit} {r':V} (v:V) (hr:v=r') (he:e= .normal ∨e= .ret :=by first | exact .inr rfl | exact .inl rfl) (h:R5 P st rs=some v:=by kernel_rfl) (hs:eJ st rs v=v:=by kernel_rfl) (hp:v.pure=true:=by kernel_rfl):
 (e= .normal ∨e= .ret)∧(HP P st rs).1∧(HP P st rs).2.pure =true∧(HP P st rs).2=r':=bD he h hs hp hr
end
theorem Tn {K:St→Prop} {Q:Exit→St→Prop} {st:St} (h:K st):B4 K Q .normal st:=h
theorem Tr {K:St→Prop} {Q:Exit→St→Prop} {st:St} (h:Q .ret st):B4 K Q .ret st:=h
theorem gi (g:Bool):g=true→g=true:=id
theorem g1 (g:Bool):g=true→BA [g=true→g=true]:=fun _=>⟨id,trivial⟩
theorem g2 (g:Bool):g=true→BA [g=true→g=true,g=true→g=true]:=fun _=>⟨id,id,trivial⟩
section
variable {l:List Prop}
theorem aB {e b:Bool} (h:some e=some b) (k:BA l):BA ((vB e=vB b)::l):=⟨congrArg vB (sI h),k⟩
theorem aT (b:Bool) (k:BA l):BA ((b=true→(b==true)=true)::l):=⟨fun q=>gT q,k⟩
theorem aF (b:Bool) (k:BA l):BA ((b=false→(b==false)=true)::l):=⟨fun q=>gF q,k⟩
theorem aG (g:Bool) (k:BA l):BA ((g=true→BA [g=true→g=true])::l):=⟨g1 g,k⟩
theorem aH (g:Bool) (k:BA l):BA ((g=true→BA [g=true→g=true,g=true→g=true])::l):=⟨g2 g,k⟩
end
section
variable {α:Type} [Inhabited α] {g:Bool} {o:Option α} {x:α} {p:Prop}
theorem c0 (h:gd g o=some x) (k:o=some x→p):g=true→BA []∧p:=fun hg=>⟨trivial,k (M8 h hg)⟩
theorem c1 (h:gd g o=some x) (k:o=some x→p):g=true→BA [g=true→g=true]∧p:=fun hg=>⟨⟨id,trivial⟩,k (M8 h hg)⟩
theorem c2 (h:gd g o=some x) (k:o=some x→p):g=true→BA [g=true→g=true,g=true→g=true]∧p:=fun hg=>⟨⟨id,id,trivial⟩,k (M8 h hg)⟩
theorem c3 (h:gd g o=some x) (k:o=some x→p):g=true→BA [g=true→g=true,g=true→g=true,g=true→g=true]∧p:=fun hg=>⟨⟨id,id,id,trivial⟩,k (M8 h hg)⟩
end
theorem I1 (k:IntKind): ∀ x,(eI k x).length =1:=fun _=>rfl
theorem Vi: ∀ x,(eS x).length =1:=fun _=>rfl
section
variable {α:Type} [Inhabited α] {l m r:List α} {i:Int} {x:α} {e:α→List C} {N:Nat}
theorem GN (hx:idx l i=some x) (hN: ∀ y,(e y).length =N) (o n:Nat) (ag:Bool) (v:V) (hv:Me ag o n (e x)=v:=by kernel_rfl) (ho:Nat.ble (o+n) N=true:=by kernel_rfl) (h0:(ag||Nat.blt 0 n)=true:=by kernel_rfl):
 i.toNat*N+o+n≤(l.flatMap e).length ∧Me ag (i.toNat*N+o) n (l.flatMap e)=v:=
 bB hx hN rfl (Nat.le_of_ble_eq_true ho) (by simpa using h0) hv
theorem oK (hx:idx l i=some x) (hN: ∀ y,(e y).length =N) (cs:List C) (b m o n:Nat) (ag:Bool) (v:V) (hc:cs=cs.take b++(l.flatMap e++cs.drop m):=by kernel_rfl) (hb:(cs.take b).length =b:=by kernel_rfl) (hv:Me ag o n (e x)=v:=by kernel_rfl) (ho:Nat.ble (o+n) N=true:=by kernel_rfl) (h0:(ag||Nat.blt 0 n)=true:=by kernel_rfl):
 b+i.toNat*N+o+n≤cs.length∧Me ag (b+i.toNat*N+o) n cs=v:=
 I5 hc hb hx hN (Nat.add_assoc _ _ _) (Nat.le_of_ble_eq_true ho) (by simpa using h0) hv
omit [Inhabited α] in
theorem M4 {b:Nat} (h:app b l m=some r) (e:α→List C):l.length+m.length=r.length∧l.flatMap e++m.flatMap e=r.flatMap e:=⟨by rw [jk h,List.length_append],by rw [jk h,List.flatMap_append]⟩
end
end Go.PL
namespace Go.PL
open Go Go.RowKit
def ku (st:St) (e:CT):St:={st with so:=e::st.so.filter (fun x=>x.id != e.id)}
theorem eN {id:Cz} {v:V} (h:v.men id=false):LS id v=v:=by unfold LS;rw [if_neg (by simp [h])]
theorem QS {id:Cz}: ∀ {l:List V},(∀ v∈l,v.men id=false)→l.map (LS id)=l
 | [],_=>rfl
 | v::l,h=>by rw [List.map_cons,eN (h v (by simp)),QS (fun x hx=>h x (by simp [hx]))]
theorem YH {id:Cz}: ∀ {l:List C},Ii id l=false→l.map (JW id)=l
 | [],_=>rfl
 | c::l,h=>by
   simp only [Ii,Bool.or_eq_false_iff]at h
   rw [List.map_cons,YH h.2,JW,if_neg (by simp [h.1])]
def CT.fre (id:Cz) (e:CT):Bool:=e.pu|| !Ii id e.cs
theorem CT.kill_eq {id:Cz} {e:CT} (h:e.fre id=true):e.kill id=e:=by
 obtain⟨i,r,cs,pu⟩:=e
 cases pu
 ·simp only [CT.fre,Bool.false_or,Bool.not_eq_true']at h
  simp only [CT.kill,YH h]
 ·rfl
theorem kw {st:St} {e:CT} (h1: ∀ v∈st.tm,v.men e.id=false) (h2: ∀ x∈st.so,x.id=e.id∨x.fre e.id=true) (h3: ∀ v∈st.gh,v.men e.id=false) (h4:e.fre e.id=true):st.new e=ku st e:=by
 have a:(st.so.filter (fun x=>x.id != e.id)).map (CT.kill e.id)=st.so.filter (fun x=>x.id != e.id):=by
  have: ∀ l:List CT,(∀ x∈l,x.id=e.id∨x.fre e.id=true)→(l.filter (fun x=>x.id != e.id)).map (CT.kill e.id)=l.filter (fun x=>x.id != e.id):=by
   intro l
   induction l with
   | nil=>intro _;rfl
   | cons x l ih=>
     intro hl
     simp only [List.filter_cons]
     split
     ·rename_i hx
      rw [List.map_cons,ih (fun y hy=>hl y (by simp [hy]))]
      rcases hl x (by simp)with q | q
      ·simp [q]at hx
      ·rw [CT.kill_eq q]
     ·exact ih (fun y hy=>hl y (by simp [hy]))
  exact this _ h2
 unfold St.new ku St.kill
 simp only [a,QS h1,QS h3,CT.kill_eq h4]
def lS (P:Program) (st:St) (s:Stp) (o:Oper):Option (List Prop×CT×V):=
 match o.guard,o.dst,s with
 | none,some d, .a =>match o.op with
   | .alloc T=>match VT P T with
     | some cs=>some ([],⟨d::st.pre,none,cs,false⟩, .c (.ptr (d::st.pre) 0))
     | none=>none
   | .box _ x=>match (CF st true x).2.cells with
     | some cs=>some ((CF st true x).1,⟨d::st.pre,none,cs,false⟩, .c (.ptr (d::st.pre) 0))
     | none=>none
   | .assign (.const (.slice none 0 0))=>match JV P o.type with
     | some (E,n)=>some ([],⟨d::st.pre,some (E,n,0),[],true⟩, .c (.osl (d::st.pre)))
     | none=>none
   | .buildSlice t len ps=>match Mh P t with
     | some (E,n,_)=>match Ts P E with
       | some z=>match M2 (fun i=>some (i*n,n)) (EK z len) ((Mk st true ps.toList).2.map Yc)with
         | some cs=>match z.length==n&&Nat.blt 0 n&&Nat.ble (len*n) (2 ^ 24)&&Bq cs with
           | true=>some ((Mk st true ps.toList).1++[],⟨d::st.pre,some (E,n,len),cs,true⟩, .c (.osl (d::st.pre)))
           | false=>none
         | none=>none
       | none=>none
     | none=>none
   | _=>none
 | _,_,_=>none
theorem YI {P:Program} {I:World→Prop} {st:St} {s:Stp} {ops:Array Oper} {o:Oper} {l:List Prop} {e:CT} {v:V} (h:lS P st s o=some (l,e,v)):
 KK P I false ops o s st=some (l,(st.new e).put o.dst v):=by
 obtain⟨dst,op,ty,pos,aft,gd⟩:=o
 unfold lS at h
 split at h
 ·rename_i d h1 h2
  simp only at h1 h2
  subst h1 h2
  split at h
  ·rename_i T hT
   simp only at hT;subst hT
   split at h
   ·rename_i cs hz
    simp only [Option.some.injEq,Prod.mk.injEq]at h
    obtain⟨rfl,rfl,rfl⟩:=h
    simp only [KK,Dx,gx,hz]
   ·cases h
  ·rename_i T x hT
   simp only at hT;subst hT
   split at h
   ·rename_i cs hz
    simp only [Option.some.injEq,Prod.mk.injEq]at h
    obtain⟨rfl,rfl,rfl⟩:=h
    simp only [KK,Dx,gx,hz]
   ·cases h
  ·rename_i hT
   simp only at hT;subst hT
   split at h
   ·rename_i E n hz
    simp only [Option.some.injEq,Prod.mk.injEq]at h
    obtain⟨rfl,rfl,rfl⟩:=h
    simp only [KK,Dx,gx,hz]
   ·cases h
  ·rename_i t len ps hT
   simp only at hT;subst hT
   split at h
   ·rename_i E n b h1
    split at h
    ·rename_i z h2
     split at h
     ·rename_i cs h3
      split at h
      ·rename_i hb
       simp only [Option.some.injEq,Prod.mk.injEq]at h
       obtain⟨rfl,rfl,rfl⟩:=h
       simp only [KK,Dx,gx,gO,h1,h2,h3,hb,da]
      ·cases h
     ·cases h
    ·cases h
   ·cases h
  ·cases h
 ·cases h
theorem kx {P:Program} {st:St} {s:Stp} {o:Oper} {l:List Prop} {e:CT} {v:V} (h:lS P st s {o with guard:=none}=some (l,e,v)):
 Dx o.op= .ef ∧gx P st s o=some (l,(st.new e).put o.dst v):=by
 have hs:=YI (I:=fun _=>True) (ops:= #[]) h
 obtain⟨dst,op,ty,pos,aft,gd⟩:=o
 have hk:Dx op= .ef :=by
  unfold lS at h
  split at h
  ·split at h
   all_goals first
    | (rename_i hT;simp only at hT;subst hT;rfl)
    | (cases h;done)
  ·cases h
 refine⟨hk,?_⟩
 unfold KK at hs
 simp only [hk]at hs
 exact hs
def oL (P:Program) (st:St) (s:Stp) (ops:Array Oper) (o:Oper):Option (List Prop×CT×V):=
 match o.guard with
 | none=>lS P st s o
 | some (j,want)=>match lS P st s {o with guard:=none}with
   | some (l,e,v)=>match J3 st ops j want with
     | some g=>some (l++[g=true],e,v)
     | none=>none
   | none=>none
theorem eO {P:Program} {I:World→Prop} {st:St} {s:Stp} {ops:Array Oper} {o:Oper} {l:List Prop} {e:CT} {v:V} (h:oL P st s ops o=some (l,e,v)):
 KK P I false ops o s st=some (l,(st.new e).put o.dst v):=by
 unfold oL at h
 split at h
 ·exact YI h
 ·rename_i j want hg
  split at h
  ·rename_i l1 e1 v1 h1
   split at h
   ·rename_i g hq
    simp only [Option.some.injEq,Prod.mk.injEq]at h
    obtain⟨rfl,rfl,rfl⟩:=h
    obtain⟨hk,he⟩:=kx h1
    unfold KK
    simp only [hg,hq,hk,he]
   ·cases h
  ·cases h
structure RD where
 tm:List (List (Nat×V)×V)
 so:List (List (Nat×CT)×Option CT)
 gh:List V
 pre:Cz
def gV (f:Nat→Bool):List (Nat×V)→V→V
 | [],u=>u
 | (i,v)::ws,u=>gV f ws (cond (f i) v u)
def gW (f:Nat→Bool):List (Nat×CT)→Option CT→Option CT
 | [],u=>u
 | (i,v)::ws,u=>gW f ws (cond (f i) (some v) u)
def RD.st (d:RD) (f:Nat→Bool):St:=⟨d.tm.map (fun x=>gV f x.1 x.2),d.so.filterMap (fun x=>gW f x.1 x.2),d.gh,d.pre⟩
theorem YJ {id:Cz} {f:Nat→Bool} {dead:Nat→Bool} (hd: ∀ j,dead j=true→f j=false): ∀ {ws:List (Nat×V)} {u:V},(ws.all fun y=>dead y.1|| !y.2.men id)=true→u.men id=false→(gV f ws u).men id=false
 | [],u,_,h=>h
 | (i,v)::ws,u,h,hu=>by
   simp only [List.all_cons,Bool.and_eq_true,Bool.or_eq_true,Bool.not_eq_true']at h
   show (gV f ws (cond (f i) v u)).men id=false
   refine YJ (ws:=ws) hd h.2 ?_
   cases hf:f i
   ·exact hu
   ·rcases h.1 with q | q
    ·rw [hd i q]at hf;cases hf
    ·exact q
theorem YK {id:Cz} {f:Nat→Bool} {dead:Nat→Bool} (hd: ∀ j,dead j=true→f j=false): ∀ {ws:List (Nat×CT)} {u:Option CT},(ws.all fun y=>dead y.1||(y.2.id==id||y.2.fre id))=true→(∀ e,u=some e→e.id=id∨e.fre id=true)→ ∀ e,gW f ws u=some e→e.id=id∨e.fre id=true
 | [],u,_,h=>h
 | (i,v)::ws,u,h,hu=>by
   simp only [List.all_cons,Bool.and_eq_true,Bool.or_eq_true,beq_iff_eq]at h
   show ∀ e,gW f ws (cond (f i) (some v) u)=some e→_
   refine YK (ws:=ws) hd h.2 ?_
   intro e he
   cases hf:f i
   ·rw [hf]at he;exact hu e he
   ·rw [hf]at he
    simp only [cond_true,Option.some.injEq]at he
    subst he
    rcases h.1 with q | q
    ·rw [hd i q]at hf;cases hf
    ·exact q
def eP (id:Cz):Option CT→Bool
 | some e=>e.id==id||e.fre id
 | none=>true
def RD.free (d:RD) (id:Cz) (dead:Nat→Bool):Bool:=
 d.tm.all (fun x=>x.1.all (fun y=>dead y.1|| !y.2.men id)&& !x.2.men id)&&
 (d.so.all (fun x=>x.1.all (fun y=>dead y.1||(y.2.id==id||y.2.fre id))&&eP id x.2)&&d.gh.all (fun v=> !v.men id))
theorem RD.free_spec {d:RD} {id:Cz} {dead f:Nat→Bool} (hd: ∀ j,dead j=true→f j=false) (h:d.free id dead=true):
 (∀ v∈(d.st f).tm,v.men id=false)∧(∀ x∈(d.st f).so,x.id=id∨x.fre id=true)∧(∀ v∈(d.st f).gh,v.men id=false):=by
 simp only [RD.free,Bool.and_eq_true,List.all_eq_true]at h
 refine⟨fun v hv=>?_,fun x hx=>?_,fun v hv=>?_⟩
 ·simp only [RD.st,List.mem_map]at hv
  obtain⟨y,h1,rfl⟩:=hv
  have:=h.1 y h1
  simp only [Bool.and_eq_true,Bool.not_eq_true']at this
  exact YJ hd (List.all_eq_true.2 this.1) this.2
 ·simp only [RD.st,List.mem_filterMap]at hx
  obtain⟨y,h1,h2⟩:=hx
  have:=h.2.1 y h1
  refine YK hd (List.all_eq_true.2 this.1) (fun e he=>?_) x h2
  have:=this.2
  rw [he]at this
  simpa [eP] using this
 ·have:=h.2.2 v hv
  simpa using this
def eQ (P:Program) (I:World→Prop) (ops:Array Oper) (ss:List Stp) (ids:List Cz) (d:RD) (dead f:Nat→Bool) (i:Nat):Option (List Prop×St):=
 match ops[i]?,ss[i]? with
 | some o,some s=>match oL P (d.st f) s ops o with
   | some (l,e,v)=>match d.free e.id dead&&e.fre e.id with
     | true=>some (l,Yx ids ((ku (d.st f) e).put o.dst v))
     | false=>none
   | none=>match KK P I false ops o s (d.st f)with
     | some (c,st')=>some (c,Yx ids st')
     | none=>none
 | _,_=>none
theorem ae {P:Program} {I:World→Prop} {ops:Array Oper} {ss:List Stp} {ids:List Cz} {d:RD} {dead f:Nat→Bool} {i:Nat} {r:List Prop×St} (hd: ∀ j,dead j=true→f j=false) (h:eQ P I ops ss ids d dead f i=some r):
 Yy P I ops ss ids (d.st f) i=some r:=by
 unfold eQ at h
 unfold Yy
 split at h
 ·rename_i o s h1 h2
  try simp only [h1,h2]
  split at h
  ·rename_i l e v h3
   split at h
   ·rename_i hb
    simp only [Bool.and_eq_true]at hb
    obtain⟨a,b,c⟩:=RD.free_spec (f:=f) hd hb.1
    rw [eO h3,kw a b c hb.2]
    exact h
   ·cases h
  ·exact h
 ·cases h
def R7:List Nat→Nat→Bool
 | [],_=>false
 | x::l,j=>cond (Nat.beq x j) true (R7 l j)
theorem Nx: ∀ {l:List Nat} {j:Nat},R7 l j=true↔j∈l
 | [],j=>by simp [R7]
 | x::l,j=>by
   simp only [R7,List.mem_cons]
   cases h:Nat.beq x j
   ·simp only [cond_false,Nx (l:=l)]
    have:x ≠ j:=fun e=>by subst e;simp at h
    exact⟨.inr,fun q=>q.resolve_left (fun e=>this e.symm)⟩
   ·simp only [cond_true,true_iff]
    exact .inl (Nat.eq_of_beq_eq_true h).symm
def jq:List Nat→List Bool→Nat→Option Bool
 | e::es,b::bs,j=>cond (Nat.beq e j) (some b) (jq es bs j)
 | _,_,_=>none
theorem S3 (f:Nat→Bool): ∀ (E:List Nat) (j:Nat),jq E (E.map f) j=if j∈E then some (f j)else none
 | [],j=>rfl
 | e::E,j=>by
   simp only [List.map_cons,jq,S3 f E j,List.mem_cons]
   cases h:Nat.beq e j
   ·have:j ≠ e:=fun q=>by subst q;simp at h
    simp [this]
   ·have:=Nat.eq_of_beq_eq_true h
    subst this
    simp
def og (pr:List (List Nat)) (E:List Nat) (mb:List Bool) (i:Nat) (b:Nat→Bool):Nat→Bool:=fun j=>
 cond (Nat.beq j i) false (cond (R7 (pr.getD j []) i) false (match jq E mb j with
  | some x=>x
  | none=>cond (R7 (pr.getD i []) j) true (b j)))
def gX (f:Nat→Bool) (i:Nat):Nat→Bool:=fun j=>cond (Nat.beq j i) true (f j)
def eR (pr:List (List Nat)) (i:Nat):Nat→Bool:=fun j=>cond (Nat.beq j i) true (R7 (pr.getD j []) i)
def dg (pr:List (List Nat)) (E:List Nat) (mb:List Bool) (N:Nat):List Nat:=
 (List.range N).filter fun i=>(match jq E mb i with
  | some true=>false
  | _=>true)&&(pr.getD i []).all fun j=>match jq E mb j with
    | some false=>false
    | _=>true
def ah (ops:Array Oper) (i:Nat):List Nat:=match ops[i]? with
 | some o=>(o.after.toList.filter (Region.binds .any)).map (·.on)
 | none=>[]
def eT (ops:Array Oper) (pr:List (List Nat)):Bool:=
 (List.range ops.size).all fun i=>(ah ops i).all (fun j=>Nat.blt j i&&R7 (pr.getD i []) j)&&(pr.getD i []).all fun j=>R7 (ah ops i) j||(ah ops i).any fun k=>R7 (pr.getD k []) j
def gY (pr:List (List Nat)) (E:List Nat) (ms:List (List Bool)) (N:Nat):Bool:=
 ms.contains (E.map fun _=>false)&&ms.all fun mb=>(dg pr E mb N).all fun i=>ms.contains (E.map fun j=>cond (Nat.beq j i) true ((jq E mb j).getD false))
def mD (P:Program) (I:World→Prop) (ops:Array Oper) (ss:List Stp) (ids:List Cz) (d:RD) (pr:List (List Nat)) (E:List Nat) (ms:List (List Bool)) (b:Nat→Bool):List (Option (List Prop×St)):=
 ms.flatMap fun mb=>(dg pr E mb ops.size).map fun i=>eQ P I ops ss ids d (eR pr i) (og pr E mb i b) i
def jr (ops:Array Oper) (cs:List (List Prop)) (d:RD) (pr:List (List Nat)) (E:List Nat) (ms:List (List Bool)) (b:Nat→Bool):List (Option (List Prop×St)):=
 ms.flatMap fun mb=>(dg pr E mb ops.size).map fun i=>some (cs.getD i [],d.st (gX (og pr E mb i b) i))
def bv (v:List Bool):Nat→Bool:=fun j=>v.getD j false
theorem YL {α β:Type} {f g:α→Nat→β} {r:α→List Nat}: ∀ {l:List α},(l.flatMap fun n=>(r n).map (f n))=(l.flatMap fun n=>(r n).map (g n))→ ∀ n∈l, ∀ i∈r n,f n i=g n i
 | [],_,n,hn,_,_=>by simp at hn
 | a::l,h,n,hn,i,hi=>by
   simp only [List.flatMap_cons]at h
   have hh:=List.append_inj h (by simp)
   rcases List.mem_cons.1 hn with rfl | hn
   ·exact List.map_inj_left.1 hh.1 i hi
   ·exact YL hh.2 n hn i hi
section
variable {P:Program} {F:Fr} {ops:Array Oper}
theorem Wi {v:List Bool} {i:Nat} (hv:v.length=ops.size) (h:i∈Region.ready .any ops v.toArray):i<ops.size∧bv v i=false∧ ∀ j∈ah ops i,bv v j=true:=by
 unfold Region.ready at h
 simp only [List.mem_filter,List.mem_range,Bool.and_eq_true,Bool.not_eq_true']at h
 obtain⟨h1,h2,h3⟩:=h
 refine⟨h1,?_,fun j hj=>?_⟩
 ·have:i<v.length:=by omega
  simp [Array.getD_eq_getD_getElem?,this]at h2
  simp [bv,List.getD_eq_getElem?_getD,this,h2]
 ·unfold ah at hj
  have ho:ops[i]? =some ops[i]:=Array.getElem?_eq_getElem h1
  rw [ho]at hj h3
  simp only [List.mem_map,List.mem_filter]at hj
  obtain⟨e,⟨he,hb⟩,rfl⟩:=hj
  simp only [Option.map_some,Option.getD_some,Array.all_eq_true_iff_forall_mem]at h3
  have:=h3 e (by simpa using he)
  simp only [hb,Bool.not_true,Bool.false_or]at this
  simp only [bv,List.getD_eq_getElem?_getD]
  simpa [Array.getD_eq_getD_getElem?] using this
theorem eU {v:List Bool} {pr:List (List Nat)} (hv:v.length=ops.size) (hp:eT ops pr=true) (h:Region.ready .any ops v.toArray=[]): ∀ i,i<ops.size→bv v i=true:=by
 intro i
 induction i using Nat.strongRecOn with
 | ind i ih=>
   intro hi
   cases hb:bv v i
   ·exfalso
    have:i∈Region.ready .any ops v.toArray:=by
     unfold Region.ready
     simp only [List.mem_filter,List.mem_range,Bool.and_eq_true,Bool.not_eq_true']
     refine⟨hi,?_,?_⟩
     ·have:i<v.length:=by omega
      simp only [bv,List.getD_eq_getElem?_getD,List.getElem?_eq_getElem this,Option.getD_some]at hb
      simp [Array.getD_eq_getD_getElem?,this,hb]
     ·have ho:ops[i]? =some ops[i]:=Array.getElem?_eq_getElem hi
      rw [ho]
      simp only [Option.map_some,Option.getD_some,Array.all_eq_true_iff_forall_mem]
      intro e he
      cases hbd:Region.binds .any e
      ·rfl
      ·have hd:e.on∈ah ops i:=by
        unfold ah;rw [ho]
        simp only [List.mem_map,List.mem_filter]
        exact⟨e,⟨by simpa using he,hbd⟩,rfl⟩
       simp only [eT,List.all_eq_true,List.mem_range,Bool.and_eq_true]at hp
       have hlt:=((hp i hi).1 _ hd).1
       simp only [Nat.blt_eq]at hlt
       have:=ih _ hlt (by omega)
       simp only [bv,List.getD_eq_getElem?_getD]at this
       simp only [Bool.not_true,Bool.false_or]
       simpa [Array.getD_eq_getD_getElem?] using this
    rw [h]at this;cases this
   ·rfl
theorem oM {pr:List (List Nat)} {E:List Nat} {ms:List (List Bool)} {ss:List Stp} {ids:List Cz} {cs:List (List Prop)} {d:RD} {Q:Exit→St→Prop} (hids:ids.Nodup) (hp:eT ops pr=true) (hm:gY pr E ms ops.size=true)
 (hst: ∀ b,mD P F.I ops ss ids d pr E ms b=jr ops cs d pr E ms b) (hc:PB cs) (hQ:Q .normal (d.st fun j=>Nat.blt j ops.size)):
 ∀ (fuel:Nat) (v:List Bool) (a:Act) (w:World) (G:B0),v.length=ops.size→E.map (bv v)∈ms→(∀ i,bv v i=true→ ∀ j∈pr.getD i [],bv v j=true)→eK v≤fuel→R F (d.st (bv v)) a w G→
   wpAny P .any ops (fun e a' w'=> ∃ st' G',Q e st'∧R F st' a' w' G') fuel v.toArray a w:=by
 have fin: ∀ (v:List Bool) a w G,v.length=ops.size→Region.ready .any ops v.toArray=[]→R F (d.st (bv v)) a w G→ ∃ st' G',Q .normal st'∧R F st' a w G':=by
  intro v a w G hv hr hR
  have e:bv v=fun j=>Nat.blt j ops.size:=by
   funext j
   by_cases hj:j<ops.size
   ·rw [eU hv hp hr j hj];exact(by simpa using hj:Nat.blt j ops.size=true).symm
   ·have h1:bv v j=false:=by simp [bv,List.getD_eq_getElem?_getD,List.getElem?_eq_none (show v.length≤j by omega)]
    rw [h1]
    cases hb:Nat.blt j ops.size
    ·rfl
    ·simp at hb;omega
  rw [e]at hR
  exact⟨_,G,hQ,hR⟩
 intro fuel
 induction fuel with
 | zero=>
   intro v a w G hv hE hcl hu hR
   have hz:=Yz _ (Nat.le_zero.1 hu)
   have hr:Region.ready .any ops v.toArray=[]:=by
    rcases hrr:Region.ready .any ops v.toArray with _ | ⟨i,r⟩
    ·rfl
    ·have:=Wi hv (i:=i) (by rw [hrr];simp)
     rw [List.all_eq_true]at hz
     have hlt:i<v.length:=by omega
     have h2:=hz v[i] (List.getElem_mem hlt)
     have h3:=this.2.1
     simp only [bv,List.getD_eq_getElem?_getD,List.getElem?_eq_getElem hlt,Option.getD_some]at h3
     rw [h3]at h2;cases h2
   exact⟨hr,fin v a w G hv hr hR⟩
 | succ fuel ih=>
   intro v a w G hv hE hcl hu hR
   refine⟨fun hr=>fin v a w G hv hr hR,fun i hi=>?_⟩
   obtain⟨hlt,hf,hdir⟩:=Wi hv hi
   have hp':=hp
   simp only [eT,List.all_eq_true,List.mem_range,Bool.and_eq_true,Bool.or_eq_true,List.any_eq_true,Nx]at hp'
   have hpre: ∀ j∈pr.getD i [],bv v j=true:=by
    intro j hj
    rcases (hp' i hlt).2 j hj with q | ⟨k,hk,q⟩
    ·exact hdir j q
    ·exact hcl k (hdir k hk) j q
   have hsuc: ∀ j,i∈pr.getD j []→bv v j=false:=by
    intro j hj
    cases hb:bv v j
    ·rfl
    ·have:=hcl j hb i hj
     rw [hf]at this;cases this
   have hg:og pr E (E.map (bv v)) i (bv v)=bv v:=by
    funext j
    unfold og
    cases h1:Nat.beq j i
    ·simp only [cond_false]
     cases h2:R7 (pr.getD j []) i
     ·simp only [cond_false,S3]
      split
      ·rename_i x hx
       split at hx
       ·simpa using hx.symm
       ·cases hx
      ·cases h3:R7 (pr.getD i []) j
       ·rfl
       ·exact(hpre j (Nx.1 h3)).symm
     ·exact(hsuc j (Nx.1 h2)).symm
    ·rw [Nat.eq_of_beq_eq_true h1];exact hf.symm
   have hri:i∈dg pr E (E.map (bv v)) ops.size:=by
    simp only [dg,List.mem_filter,List.mem_range,Bool.and_eq_true,List.all_eq_true,S3]
    refine⟨hlt,?_,fun j hj=>?_⟩
    ·split
     ·rename_i hq
      split at hq
      ·simp only [Option.some.injEq]at hq;rw [hf]at hq;cases hq
      ·cases hq
     ·rfl
    ·split
     ·rename_i hq
      split at hq
      ·simp only [Option.some.injEq]at hq;rw [hpre j hj]at hq;cases hq
      ·cases hq
     ·rfl
   have hstep:=YL (r:=fun mb=>dg pr E mb ops.size) (hst (bv v)) _ hE i hri
   rw [hg]at hstep
   have hdead: ∀ j,eR pr i j=true→bv v j=false:=by
    intro j hj
    unfold eR at hj
    cases h1:Nat.beq j i
    ·rw [h1]at hj;exact hsuc j (Nx.1 hj)
    ·rw [Nat.eq_of_beq_eq_true h1];exact hf
   have hstep:=ae hdead hstep
   have hset:gX (bv v) i=bv (v.set i true):=by
    funext j
    unfold gX
    cases h1:Nat.beq j i
    ·have:i ≠ j:=fun e=>by subst e;simp at h1
     simp [bv,List.getD_eq_getElem?_getD,List.getElem?_set,this]
    ·have:=Nat.eq_of_beq_eq_true h1
     subst this
     simp [bv,List.getD_eq_getElem?_getD,show j<v.length by omega]
   unfold Yy at hstep
   split at hstep
   ·rename_i o s ho hs
    split at hstep
    ·rename_i c st' hss
     simp only [Option.some.injEq,Prod.mk.injEq]at hstep
     obtain⟨hcc,hst'⟩:=hstep
     rw [hset]at hst'
     have hwp:=Pz (K:=fun s'=>D4 s' (d.st (bv (v.set i true)))) hss (hcc▸QQ hc i) (hst'▸QP ids hids st')
     have hw:=Wd (Q:=fun e a' w'=> ∃ st' G',Q e st'∧R F st' a' w' G') hR hwp
     have hnext: ∀ a' w',dP F (fun s'=>D4 s' (d.st (bv (v.set i true)))) a' w'→wpAny P .any ops (fun e a' w'=> ∃ st' G',Q e st'∧R F st' a' w' G') fuel (v.toArray.setIfInBounds i true) a' w':=by
      intro a' w' ⟨s',G',hl,hR'⟩
      have hsa:v.toArray.setIfInBounds i true=(v.set i true).toArray :=by simp
      rw [hsa]
      refine ih (v.set i true) a' w' G' (by simpa using hv) ?_ ?_ ?_ (hR'.less hl)
      ·simp only [gY,Bool.and_eq_true,List.all_eq_true,List.contains_iff_mem]at hm
       have:=hm.2 _ hE i hri
       have e:(E.map fun j=>cond (Nat.beq j i) true ((jq E (E.map (bv v)) j).getD false))=E.map (bv (v.set i true)):=by
        refine List.map_congr_left (fun j hj=>?_)
        rw [←hset,S3,if_pos hj]
        rfl
       rwa [e]at this
      ·intro k hk j hj
       rw [←hset]at hk ⊢
       unfold gX at hk ⊢
       cases h1:Nat.beq j i
       ·simp only [cond_false]
        cases h2:Nat.beq k i
        ·rw [h2]at hk;exact hcl k hk j hj
        ·rw [Nat.eq_of_beq_eq_true h2]at hj;exact hpre j hj
       ·rfl
      ·have hb:v[i]? =some false:=by
        have hl:i<v.length:=by omega
        simp only [bv,List.getD_eq_getElem?_getD,List.getElem?_eq_getElem hl,Option.getD_some]at hf
        rw [List.getElem?_eq_getElem hl,hf]
       have:=Xb _ i hb
       omega
     unfold wpOp
     rw [ho]
     simp only
     by_cases hwt:Region.wanted o (yielded ops a.tmps)=true
     ·rw [if_pos hwt]at hw ⊢
      exact .inl (Oper.wp_mono hnext hw)
     ·rw [if_neg hwt]at hw ⊢
      exact hnext _ _ hw
    ·cases hstep
   ·cases hstep
theorem Ai.regS {st:St} {rid:Nat} {l:List Oper} {Q:Exit→St→Prop} (h1:P.follows .mixedOrders =true) (pr:List (List Nat)) (E:List Nat) (ms:List (List Bool)) (ss:List Stp) (ids:List Cz) (d:RD) (cs:List (List Prop)) (hc:PB cs) (hQ:Q .normal (d.st fun j=>Nat.blt j l.toArray.size))
 (hids:O1 ids=true:=by kernel_rfl) (hp:eT l.toArray pr=true:=by kernel_rfl) (hm:gY pr E ms l.toArray.size=true:=by kernel_rfl) (h0:OD st (d.st fun _=>false)=some (d.st fun _=>false):=by kernel_rfl)
 (hst: ∀ b,mD P F.I l.toArray ss ids d pr E ms b=jr l.toArray cs d pr E ms b:=by intro b;kernel_rfl):Ai P F (.region rid l.toArray true) st Q:=by
 intro a w G hR
 refine wp_region_any h1 ?_
 have hR':=(hR.less (D4.t h0)).same (w':={w with drawn:=w.drawn+1}) ⟨rfl,rfl,rfl⟩ ⟨Nat.le_refl _,fun _ _=>rfl⟩
 have e0:bv (List.replicate l.toArray.size false)=fun _=>false:=by
  funext j
  simp only [bv,List.getD_eq_getElem?_getD,List.getElem?_replicate]
  split<;>rfl
 have key:=oM (P:=P) (ops:=l.toArray) (Q:=Q) (Nw hids) hp hm hst hc hQ l.toArray.size (List.replicate l.toArray.size false) a _ G (by simp) (by
  simp only [gY,Bool.and_eq_true,List.contains_iff_mem]at hm
  rw [e0];exact hm.1) (fun i hi=>by rw [e0]at hi;cases hi) (by simp [eK]) (by rw [e0];exact hR')
 simpa using key
end
def mE:Nat→Nat→List (Nat×List (Nat×V)×V)→List (List (Nat×V)×V)
 | 0,_,_=>[]
 | n+1,i,[]=>([], .undef)::mE n (i+1) []
 | n+1,i,(j,ws,v)::l=>match Nat.beq i j with
   | true=>(ws,v)::mE n (i+1) l
   | false=>([], .undef)::mE n (i+1) ((j,ws,v)::l)
theorem bC {l:List Prop} {ls:List (List Prop)} (h:BA l) (k:PB ls):PB (l::ls):=⟨h,k⟩
theorem bN:PB []:=trivial
end Go.PL
namespace Go.PL
open Go Go.RowKit
def Wk (st st':St):Prop:= ∀ (F:Fr) (a:Act) (w:World) (G:B0),R F st a w G→ ∃ G',R F st' a w G'
theorem Wk.less {st st':St} (h:D4 st st'):Wk st st':=fun _ _ _ G hR=>⟨G,hR.less h⟩
theorem Wk.trans {a b c:St} (h:Wk a b) (k:Wk b c):Wk a c:=fun F x w G hR=>by
 obtain⟨G',q⟩:=h F x w G hR
 exact k F x w G' q
theorem Wk.frz (st:St) (id:Cz):Wk st (st.freeze id):=fun _ _ _ _ hR=>by
 obtain⟨G',q,_⟩:=hR.freeze id
 exact⟨G',q⟩
theorem Wk.frzs: ∀ (ids:List Cz) (st:St),Wk st (ids.foldl St.freeze st)
 | [],st=>Wk.less (D4.refl st)
 | i::l,st=>(Wk.frz st i).trans (Wk.frzs l _)
theorem wT {st st':St} (h:OD st st'=some st':=by kernel_rfl):Wk st st':=Wk.less (D4.t h)
theorem wU {st st':St} (hn:O1 st'.ids=true:=by kernel_rfl) (h:OD (Yx st'.ids st) st'=some st':=by kernel_rfl):Wk st st':=Wk.less (lU hn h)
theorem wF {st st':St} (ids:List Cz) (hn:O1 st'.ids=true:=by kernel_rfl) (h:OD (Yx st'.ids (ids.foldl St.freeze st)) st'=some st':=by kernel_rfl):Wk st st':=(Wk.frzs ids st).trans (Wk.less (lU hn h))
section
variable {P:Program} {F:Fr} {st:St}
theorem Ai.wk {c:Code} {st':St} {Q:Exit→St→Prop} (h:Wk st st') (hh:Ai P F c st' Q):Ai P F c st Q:=fun a w G hR=>by
 obtain⟨G',q⟩:=h F a w G hR
 exact hh a w G' q
theorem Ai.loopW {X:Type} (S:X→St) (inv:X→Prop) (μ:X→Nat) {c:Code} {Q:Exit→St→Prop} (x0:X) (h0:inv x0) (hl:Wk st (S x0))
 (hb: ∀ x,inv x→Ai P F c (S x) (B4 (fun st'=> ∃ y,inv y∧μ y<μ x∧Wk st' (S y)) Q)):Ai P F (.loop c) st Q:=by
 refine Ai.loop (X:=X×St) (fun p=>p.2) (fun p=>inv p.1∧Wk p.2 (S p.1)) (fun p=>μ p.1) (x0,st) ⟨h0,hl⟩ (D4.refl _) (fun p hp=>?_)
 refine(Ai.wk hp.2 (hb p.1 hp.1)).mono fun e st' q=>?_
 cases e<;>simp only [B4]at q ⊢ <;>try exact q
 obtain⟨y,h1,h2,h3⟩:=q
 exact⟨(y,st'),⟨h1,h3⟩,h2,D4.refl _⟩
theorem It {σ ρ:Type} {B:σ→Option (σ⊕ρ)} (S:σ→St) {N:Nat} {s0:σ} {o:ρ} {c:Code} {Q:Exit→St→Prop} (hi:PL.iter B N s0=some o) (hl:Wk st (S s0))
 (hb: ∀ s z,B s=some z→(∀ o',z= .inr o'→o'=o)→Ai P F c (S s) (B4 (fun st'=> ∃ s',z= .inl s'∧Wk st' (S s')) Q)):Ai P F (.loop c) st Q:=by
 refine Ai.loopW (X:=Nat×σ) (fun x=>S x.2) (fun x=>PL.iter B x.1 x.2=some o) (fun x=>x.1) (N,s0) hi hl ?_
 intro ⟨n,s⟩ hx
 cases n with
 | zero=>simp [PL.iter]at hx
 | succ n=>
   simp only [PL.iter]at hx
   cases hB:B s with
   | none=>rw [hB]at hx;simp at hx
   | some z=>
     rw [hB]at hx
     cases z with
     | inl s'=>
       refine(hb s _ hB (fun o' e=>by cases e)).mono fun e st' q=>?_
       cases e<;>simp only [B4]at q ⊢ <;>try exact q
       obtain⟨s'',e,hl'⟩:=q
       injection e with e;subst e
       exact⟨(n,s'),hx,Nat.lt_succ_self _,hl'⟩
     | inr r=>
       simp only [Option.some.injEq]at hx
       refine(hb s _ hB (fun o' e=>by injection e with e;rw [←e];exact hx)).mono fun e st' q=>?_
       cases e<;>simp only [B4]at q ⊢ <;>try exact q
       obtain⟨s'',e,_⟩:=q
       cases e
theorem Sj {X:Type} (S:X→St) (Φ:X→Prop) {x y:Code} {Q:Exit→St→Prop} (hx:Ai P F x st (B4 (fun st'=> ∃ v,Φ v∧Wk st' (S v)) Q)) (hy: ∀ v,Φ v→Ai P F y (S v) Q):Ai P F (.seq x y) st Q:=
 Ai.seq (hx.mono fun e st' q=>by
  cases e<;>simp only [B4]at q ⊢ <;>try exact q
  obtain⟨v,h1,h2⟩:=q
  exact Ai.wk h2 (hy v h1))
end
theorem dh {α:Type} (e:α→List C) (x:α) {z:List C} (hz:z=e x) (hp:0<z.length): ∀ k,EK z k=(List.replicate k x).flatMap e:=by
 intro k
 subst hz
 apply List.ext_getElem?
 intro i
 have hlen:((List.replicate k x).flatMap e).length =k*(e x).length :=by
  induction k with
  | zero=>simp
  | succ k ih=>rw [List.replicate_succ,List.flatMap_cons,List.length_append,ih,Nat.succ_mul,Nat.add_comm]
 by_cases hi:i<k*(e x).length
 ·have hm:i % (e x).length <(e x).length :=Nat.mod_lt _ hp
  have key: ∀ k i,i<k*(e x).length →((List.replicate k x).flatMap e)[i]? =(e x)[i % (e x).length]? :=by
   intro k
   induction k with
   | zero=>intro i h;simp at h
   | succ k ih=>
     intro i h
     rw [List.replicate_succ,List.flatMap_cons]
     by_cases hlt:i<(e x).length
     ·rw [List.getElem?_append_left hlt,Nat.mod_eq_of_lt hlt]
     ·rw [List.getElem?_append_right (by omega),ih _ (by rw [Nat.succ_mul]at h;omega), ←Nat.mod_eq_sub_mod (by omega)]
  rw [key k i hi]
  simp only [EK,List.getElem?_map,List.getElem?_range hi,Option.map_some]
  rw [List.getD_eq_getElem?_getD,List.getElem?_eq_getElem hm]
  rfl
 ·rw [List.getElem?_eq_none (by simp only [EK,List.length_map,List.length_range];omega),List.getElem?_eq_none (by rw [hlen];omega)]
theorem pt {α:Type} {x:α} {lx:List α} {n:Nat} (h:some (List.replicate n x)=some lx) (e:α→List C) (hp:Nat.blt 0 (e x).length =true:=by kernel_rfl):n=lx.length∧EK (e x) n=lx.flatMap e:=by
 have:=Option.some.inj h
 subst this
 exact⟨by simp,dh e x rfl (by simpa using hp) n⟩
end Go.PL
namespace Go.PL
open Go Go.RowKit
def Fh (s:List UInt8):List Int:=s.map fun b=>(b.toNat:Int)
def eV (P:Program) (dst:TypeId):Option TypeId:=match P.underlying dst with
 | some (.slice e)=>match P.underlying e with
   | some (.int .u8)=>some e
   | _=>none
 | _=>none
theorem ai {P:Program} {dst e:TypeId} (h:eV P dst=some e):P.underlying dst=some (.slice e)∧P.underlying e=some (.int .u8):=by
 unfold eV at h
 split at h
 ·rename_i e' h1
  split at h
  ·rename_i h2
   injection h with h;subst h
   exact⟨h1,h2⟩
  ·cases h
 ·cases h
theorem PH {w:World} {G:B0} {e:TypeId} (s:List UInt8): ∀ (l:List UInt8) (k:Nat),s.drop k=l→A0 (Lib.bytesWorld w e ⟨s.toArray⟩) G ((Fh l).flatMap (eI .u8)) w.heap.size k
 | [],_,_=>by simp [Fh,A0]
 | b::l,k,h=>by
   have hk:k<s.length:=by
    rcases Nat.lt_or_ge k s.length with q | q
    ·exact q
    ·rw [List.drop_eq_nil_of_le q]at h;cases h
   have hb:s.getD k 0=b:=by
    have:=congrArg (fun l=>l.head?) h
    simp only [List.head?_drop,List.head?_cons]at this
    rw [List.getD_eq_getElem?_getD,this];rfl
   have hd:s.drop (k+1)=l:=by
    have:=congrArg List.tail h
    simpa using this
   simp only [Fh,List.map_cons,List.flatMap_cons,eI,List.cons_append,List.nil_append,A0,As]
   refine⟨⟨_,Lib.bytesWorld_cell w e ⟨s.toArray⟩ k (by simpa [ByteArray.size] using hk),?_⟩,PH s l (k+1) hd⟩
   simp only [List.getD_eq_getElem?_getD]at hb
   simp [List.getD_eq_getElem?_getD,hb]
theorem EB.bytes {P:Program} {I:World→Prop} {o:Oper} {st:St} {K:St→Prop} {x:Operand} {src dst:TypeId} (e:TypeId) (s:List UInt8)
 (ho:o.op= .convert src dst x) (hlen:s.length≤140737488355328) (hK:K (st.put o.dst (vL (eI .u8) (Fh s)))) (ha:st.ev x= .c (.str s):=by kernel_rfl)
 (hs:KA P src=true:=by kernel_rfl) (hd:eV P dst=some e:=by kernel_rfl):EB P I o st K:=by
 intro F a w G Q hI hR
 obtain⟨h1,h2⟩:=ai hd
 have hx:=hR.ev x
 rw [ha]at hx
 simp only [Ap,As]at hx
 obtain⟨u,hu⟩: ∃ u,P.underlying src=some u:=by
  unfold KA at hs
  cases hq:P.underlying src with
  | none=>rw [hq]at hs;simp at hs
  | some u=>exact⟨u,rfl⟩
 have hrun:(execOp a.eval o).run P w= .ok (.value (.slice (some ⟨w.heap.size,0,none⟩) s.length (grownCap w s.length 0 e))) (Lib.bytesWorld w e ⟨s.toArray⟩):=by
  have:=Lib.run_convert_string_bytes (P:=P) w src dst e ⟨s.toArray⟩ hu h1 h2
  simp [execOp,ho,hx,this,ByteArray.size]
 refine DT hrun ⟨_,G,hK,?_⟩
 have hb:=Lib.bytesWorld_below w e ⟨s.toArray⟩
 refine(hR.same (EY hb) (GR hb)).put ?_
 have hl:(Fh s).length =s.length:=by simp [Fh]
 simp only [Ap,As,hl]
 refine⟨En _ (fun x=>by simp [eI,Bq,C.pure]) _,_,_,rfl,grownCap_ge _ _ _ _,grownCap_le_maxLen _ _ _ _ (by simp only [maxLen];omega),fun h0=>?_, .inr ⟨w.heap.size,0,rfl,fun hw=>absurd (hR.avlt' hw) (by omega),?_,PH s s 0 rfl⟩⟩
 ·have:s=[]:=List.length_eq_zero_iff.1 h0
  subst this;rfl
 ·rw [Lib.bytesWorld_size];omega
end Go.PL
namespace Go.PL
open Go Go.RowKit
theorem EB.nilq {P:Program} {I:World→Prop} {o:Oper} {st:St} {K:St→Prop} {t ty:TypeId} {x:Operand} {len:Nat} {cs:List C}
 (ho:o.op= .binOp .eql t x (.const (.slice none 0 0)) ty) (hK: ∀ b,(b=true→len=0)→K (st.put o.dst (vB b)))
 (hx:st.ev x= .c (.sl len cs):=by kernel_rfl) (ht:JY P t=true:=by kernel_rfl):EB P I o st K:=by
 intro F a w G Q hI hR
 obtain⟨e,hu⟩:=JZ ht
 have hv:=hR.ev x
 rw [hx]at hv
 simp only [Ap,As]at hv
 obtain⟨_,p,cap,he,_,_,_,hz⟩:=hv
 have hrun:(execOp a.eval o).run P w= .ok (.value (.bool p.isNone)) w:=by
  have hq:=run_equal_slice_nil (P:=P) w t e p len cap hu
  have hc:a.eval (.const (.slice none 0 0))= .slice none 0 0:=rfl
  simp [execOp,ho,he,hc,eqGuard,binOp,hq]
 refine DT hrun ⟨_,G,hK p.isNone (fun hp=>?_),hR.put (by simp only [Ap,As])⟩
 rcases hz with q | ⟨b,off,q,_⟩
 ·exact q
 ·rw [q]at hp;cases hp
theorem EB.map {P:Program} {I:World→Prop} {o:Oper} {st:St} {K:St→Prop} {t:TypeId} (ho:o.op= .makeMap t none) (hK:K (st.put o.dst (.c .any))):EB P I o st K:=by
 intro F a w G Q hI hR
 have hrun:(execOp a.eval o).run P w= .ok (.value (.map (some w.heap.size))) (w.alloc (.map #[] 0)):=by
  simp [execOp,ho,Instr.makeMap,newObj]
  rfl
 refine DT hrun ⟨_,G,hK,?_⟩
 have hb:Below w.heap.size w (w.alloc (.map #[] 0)):=(Below.refl _ _).alloc (Nat.le_refl _) _
 exact(hR.same (EY hb) (GR hb)).put (by simp only [Ap,As];rfl)
end Go.PL
namespace Go.PL
open Go Go.RowKit
structure Fi (P:Program) (I:World→Prop) (f:FuncId) (args:List V) (E n:Nat) (Q:Nat→List C→Prop):Prop where
 ent:ent P f=true
 run: ∀ (w:World) (vs:Array Value) (av:Nat→Prop),I w→(∀ b,av b→b<w.heap.size)→Bc w (im av) args vs.toList→
  Calls P f vs w (fun e w'=> ∃ v len cs us,e= .returned v∧Q len cs∧Bq cs=true∧cs.length=len*n∧
   ((∃ p,v= .slice p 0 0∧len=0)∨AD w' (im fun b=>av b∨v.ownBlock=some b) cs us∧w'.ownsRow w.heap.size E n v len us)∧Below w.heap.size w w')
theorem R.adopt {F:Fr} {st:St} {a:Act} {w w':World} {G:B0} (h:R F st a w G) (hb:Below w.heap.size w w') (id:Cz) {E n len:Nat} {cs:List C} {v:Value} {us:List Value} (hp:Bq cs=true) (hl:cs.length=len*n)
 (hv:(∃ p,v= .slice p 0 0∧len=0)∨AD w' (im fun b=>G.wr b∨v.ownBlock=some b) cs us∧w'.ownsRow w.heap.size E n v len us):
 ∃ G',R F (st.new ⟨id,some (E,n,len),cs,true⟩) a w' G'∧G'.own id=some v∧v.oneCell'=true:=by
 have hblk: ∀ b,b<w.heap.size→G.blk id ≠ some b→w'.heap[b]? =w.heap[b]? :=fun b hb' _=>hb.block b hb'
 have hext: ∀ b,b<F.w0.heap.size→ ¬F.old b→w'.heap[b]? =w.heap[b]? :=fun b hb' _=>hb.block b (Nat.lt_of_lt_of_le hb' h.hsize)
 rcases hv with ⟨p,rfl,rfl⟩ | ⟨hr,hown⟩
 ·refine⟨GO F G id none (some (.slice p 0 0)),?_,by simp [GO],rfl⟩
  refine h.set ⟨id,some (E,n,0),cs,true⟩ none _ (EY hb) hb.size hblk hext (fun b hb'=>by cases hb') (fun _=>hp) ?_
  exact Nn (CT.kill_row _ _) ⟨by rw [LT];exact hl,_,by simp only [GO,CT.kill_id,if_true], .inl ⟨p,rfl,rfl,by simp [GO,CT.kill_id]⟩⟩
 ·have hone:v.oneCell'=true:=by
   rcases hown.2 with ⟨q,_⟩ | ⟨g,cap,cur,q,_⟩<;>rw [q]<;>rfl
  have hfr: ∀ b,v.ownBlock=some b→w.heap.size≤b∧b<w'.heap.size:=fun b hb'=>hown.lt b hb'
  refine⟨GO F G id v.ownBlock (some v),?_,by simp [GO],hone⟩
  refine h.set ⟨id,some (E,n,len),cs,true⟩ v.ownBlock (some v) (EY hb) hb.size hblk hext (fun b hb'=>⟨.inl (hfr b hb').1,(hfr b hb').2⟩) (fun _=>hp) ?_
  have hr2:AD w' (GO F G id v.ownBlock (some v)) cs us:=AD.mono (G:=im fun b=>G.wr b∨v.ownBlock=some b) ⟨Nat.le_refl _,fun _ _ _=>rfl,fun b _ hw=>by
   simp only [GO]at hw
   show G.wr b∨v.ownBlock=some b
   rcases hw with q | ⟨i,q⟩
   ·exact .inl ((h.wr b).2 (.inl q))
   ·split at q
    ·exact .inr q
    ·exact .inl ((h.wr b).2 (.inr ⟨i,q⟩)),fun _ _ _ _=>GD.same rfl⟩ _ _ (fun i hi=>absurd (show Ii i cs=true from hi) (by rw [Dt i cs hp];simp)) hr
  refine Nn (CT.kill_row _ _) ⟨by rw [LT];exact hl,v,by simp [GO,CT.kill_id],?_⟩
  rcases hown.2 with ⟨q,h0⟩ | ⟨g,cap,cur,q,_,q2,q3,q4,q5,q6⟩
  ·exact .inl ⟨none,q,h0,by simp [GO,q,Value.ownBlock,CT.kill_id]⟩
  ·refine .inr ⟨g,cap,cur,q,by simp [GO,q,Value.ownBlock,CT.kill_id],q2,q3,q4,q5,?_⟩
   exact A0.of_list (vs:=us) hr2 (Jp q2 (rest:=cur.toList.drop (len*n)) (by rw [←q6,List.take_append_drop]))
theorem EB.callO {P:Program} {I:World→Prop} {o:Oper} {st:St} {K:St→Prop} {f:FuncId} {xs:List Operand} {E n:Nat} {Q:Nat→List C→Prop} (d:Nat)
 (hk:Dx o.op= .call f xs) (hd:o.dst=some d) (ha:BA (FP st true xs).1) (hp:(E9 ((FP st true xs).2.map (De st))&&(Fg (FP st true xs).2).isEmpty)=true)
 (hc:Fi P I f ((FP st true xs).2.map (De st)) E n Q)
 (hK: ∀ len cs,Q len cs→K ((st.new ⟨d::st.pre,some (E,n,len),cs,true⟩).put (some d) (.c (.osl (d::st.pre))))):EB P I o st K:=by
 intro F a w G Q0 hI hR
 obtain⟨h1,h2⟩:=JB ha
 simp only [Bool.and_eq_true,List.isEmpty_iff]at hp
 have hI':I w:=hI▸hR.inv w hR.hsize hR.ext
 have hr:=Pv (a:=a) hk hc.ent w
 unfold Oper.wp Oper.upon
 rw [hr]
 have hx:Bc w G (FP st true xs).2 (xs.map a.eval):=by rw [←h2];exact hR.args rfl h1
 have h3:=I4 hR (av:=fun b=>G.wr b) (fun _ _ q=>q) (by rw [hp.2];simp) hp.1 hx
 refine(hc.run w (xs.map a.eval).toArray (fun b=>G.wr b) hI' (fun b hb=>hR.avlt' hb) (by simpa using h3)).mono fun e w' ⟨v,len,cs,us,he,hq,hpc,hl,hv,hb⟩=>?_
 subst he
 obtain⟨G',g1,g2,g3⟩:=hR.adopt hb (d::st.pre) (E:=E) (n:=n) hpc hl hv
 refine⟨_,G',hK len cs hq,?_⟩
 rw [hd]
 exact R.put (d:=some d) g1 (show Ap w' G' (V.c (C.osl (d::st.pre))) v by simp only [Ap,As];exact⟨g2,g3⟩)
def oN (st:St) (t:Nat) (E n:Nat) (Q:Nat→List C→Prop):Prop:=
 (∃ id e len,st.get t= .c (.osl id)∧st.look id=some e∧e.row=some (E,n,len)∧Bq e.cs=true∧Q len e.cs)∨(st.get t= .c .nils ∧Q 0 [])
theorem Fi.of {P:Program} {I:World→Prop} (hst:QK I) {f:FuncId} {fn:Func} {c:Code} {args:List V} {E n t m:Nat} {Q:Nat→List C→Prop} (hent:PL.ent P f=true) (hf:P.funcs[f]? =some fn) (hb:fn.body=some c)
 (hr:fn.results= #[.tmp t]) (hn:fn.ntmps=m)
 (h: ∀ w0 av old gv,Ai P ⟨w0,av,old,I,gv⟩ c (St.start args m) (fun e st'=>(e= .normal ∨e= .ret)∧oN st' t E n Q)):Fi P I f args E n Q:=by
 refine⟨hent,fun w vs av hI hav hargs=>calls_of_wp hf hb ?_⟩
 subst hn
 have hR:=R.start hst hI hav hargs fn.ntmps
 refine Code.wp_mono (fun e a' w' ⟨st',G',⟨he,q⟩,hR'⟩=>?_) (h _ _ _ _ _ _ _ hR)
 have fin:a'.defers=[]∧ ∃ v,(results fn a'.tmps).run P w'= .ok v w'∧(fun(e:Ending) w''=> ∃ v len cs us,e= .returned v∧Q len cs∧Bq cs=true∧cs.length=len*n∧
  ((∃ p,v= .slice p 0 0∧len=0)∨AD w'' (im fun b=>av b∨v.ownBlock=some b) cs us∧w''.ownsRow w.heap.size E n v len us)∧Below w.heap.size w w'') (.returned v) w':=by
  have hres:(results fn a'.tmps).run P w'= .ok (a'.tmps.getD t Go.undef) w':=by
   have:=IB (P:=P) (w:=w') (fn:=fn) (tmps:=a'.tmps) (vs:=[a'.tmps.getD t Go.undef]) (by rw [hr];simp [KJ])
   simpa using this
  refine⟨hR'.dfr,_,hres,?_⟩
  have hbel:=hR'.below (fun _ hx=>hx)
  have hsl:=hR'.slots t
  rcases q with ⟨id,e,len,q1,q2,q3,q4,q5⟩ | ⟨q1,q2⟩
  ·have hsl':Ap w' G' (st'.get t) (a'.tmps.getD t Go.undef):=hsl
   rw [q1]at hsl'
   simp only [Ap,As]at hsl'
   obtain⟨hm,hid⟩:=DA q2
   obtain⟨v,us,k1,k2,k3,k4⟩:=Ld q3 (hR'.store e hm)
   have hE:=hR'.store e hm
   have hl:e.cs.length=len*n:=by unfold HN at hE;rw [q3]at hE;exact hE.1
   rw [hid]at k1
   rw [k1]at hsl'
   have hv:v=a'.tmps.getD t Go.undef:=by have:=hsl'.1;injection this
   refine⟨_,len,e.cs,us,rfl,q5,q4,hl,?_,hbel⟩
   rw [←hv]
   rcases k4 with ⟨k4,k5⟩ | ⟨p,rfl,k5,_⟩
   ·refine .inr ⟨AD.mono (G:=G') ⟨Nat.le_refl _,fun _ _ _=>rfl,fun b _ hw=>?_,fun _ _ _ _=>GD.same rfl⟩ _ _ (fun i hi=>absurd (show Ii i e.cs=true from hi) (by rw [Dt i e.cs q4];simp)) k3,?_⟩
    ·rw [hR'.wr]
     have hw':av b∨v.ownBlock=some b:=hw
     rcases hw' with q | q
     ·exact .inl q
     ·exact .inr ⟨id,by rw [←hid, ←k5];exact q⟩
    ·refine⟨k4.1,?_⟩
     rcases k4.2 with ⟨q,h0⟩ | ⟨g,cap,cur,q,z1,z2,z3,z4,z5,z6⟩
     ·exact .inl ⟨q,h0⟩
     ·refine .inr ⟨g,cap,cur,q,?_,z2,z3,z4,z5,z6⟩
      have hg:G'.blk e.id=some g:=by rw [←k5,q];rfl
      rcases hR'.new _ _ hg with q' | q'
      ·exact q'
      ·exact q'.elim
   ·exact .inl ⟨some p,rfl,k5⟩
  ·have hsl':Ap w' G' (st'.get t) (a'.tmps.getD t Go.undef):=hsl
   rw [q1]at hsl'
   simp only [Ap,As]at hsl'
   exact⟨_,0,[],[],rfl,q2,rfl,by simp, .inl ⟨none,hsl',rfl⟩,hbel⟩
 rcases he with rfl | rfl<;>exact fin
end Go.PL
namespace Go.PL
open Go Go.RowKit
theorem Fi.flat {P:Program} {I:World→Prop} {f:FuncId} {args:List V} {E n k:Nat} {ds:List C} (h:Fi P I f args E n (fun len cs=>len=k∧cs=ds)):Ah P I f args (· = .c (.sl k ds)):=by
 refine⟨h.ent,fun w vs av hI hav hr=>(h.run w vs av hI hav hr).mono ?_⟩
 rintro e w' ⟨v,len,cs,us,he,⟨rfl,rfl⟩,hp,hl,hv,hb⟩
 refine⟨v,_,he,rfl,by simp only [V.pure,C.pure],?_,hb⟩
 simp only [Ap,As]
 refine⟨hp,?_⟩
 rcases hv with ⟨p,rfl,rfl⟩ | ⟨hr,hown⟩
 ·exact⟨p,0,rfl,Nat.le_refl _,Nat.zero_le _,fun _=>List.length_eq_zero_iff.1 (by simpa using hl), .inl rfl⟩
 ·have h0:len=0→cs=[]:=fun h0=>List.length_eq_zero_iff.1 (by rw [hl,h0,Nat.zero_mul])
  rcases hown.2 with ⟨q,q0⟩ | ⟨g,cap,cur,q,z1,z2,z3,z4,z5,z6⟩
  ·exact⟨none,0,by rw [q,q0],by omega,Nat.zero_le _,h0, .inl q0⟩
  ·refine⟨_,cap,q,z3,z4,h0, .inr ⟨g,0,rfl,fun ha=>?_,(Array.getElem?_eq_some_iff.1 z2).1,?_⟩⟩
   ·have:=hav g ha;omega
   ·refine A0.of_list (vs:=us) ?_ (Jp z2 (rest:=cur.toList.drop (len*n)) (by rw [←z6,List.take_append_drop]))
    exact AD.mono (G:=im fun b=>av b∨v.ownBlock=some b) ⟨Nat.le_refl _,fun _ _ _=>rfl,fun b _ hw=> .inl hw,fun _ _ _ _=>GD.same rfl⟩ _ _ (fun i hi=>absurd (show Ii i cs=true from hi) (by rw [Dt i cs hp];simp)) hr
theorem EB.co {P:Program} {I:World→Prop} {o:Oper} {st:St} {K:St→Prop} {f:FuncId} {xs:List Operand} {E n:Nat} {Q:Nat→List C→Prop} {args:List V} {cl:List Prop} (d:Nat)
 (hk:Dx o.op= .call f xs) (hd:o.dst=some d) (hc:Fi P I f args E n Q) (ha:BA cl)
 (hK: ∀ len cs,Q len cs→K ((st.new ⟨d::st.pre,some (E,n,len),cs,true⟩).put (some d) (.c (.osl (d::st.pre)))))
 (h1:(FP st true xs).1=cl:=by kernel_rfl) (h2:(FP st true xs).2.map (De st)=args:=by kernel_rfl)
 (hp:(E9 ((FP st true xs).2.map (De st))&&(Fg (FP st true xs).2).isEmpty)=true:=by kernel_rfl):EB P I o st K:=
 EB.callO d hk hd (h1▸ha) hp (h2▸hc) hK
theorem R.guarded {F:Fr} {st:St} {a:Act} {w:World} {G:B0} (h:R F st a w G) {g:Bool} (hg:g=true) (d:Nat):R F (st.put (some d) (.g g (st.get d))) a w G:={
 dfr:=h.dfr
 size:=by simp [St.put,h.size]
 slots:=fun i=>by
  simp only [St.put,List.getD_eq_getElem?_getD,List.getElem?_set]
  by_cases hi:d=i
  ·subst hi
   by_cases hl:d<st.tm.length
   ·rw [if_pos rfl,if_pos hl,Option.getD_some]
    simp only [Ap]
    rw [if_pos hg]
    exact h.slots d
   ·rw [if_pos rfl,if_neg hl,Option.getD_none];simp only [Ap]
  ·rw [if_neg hi]
   have:=h.slots i
   simpa only [List.getD_eq_getElem?_getD] using this
 ghosts:=h.ghosts,store:=h.store,pures:=h.pures,nodup:=h.nodup
 inj:=h.inj,lt:=h.lt,new:=h.new,wr:=h.wr,avlt:=h.avlt,inv:=h.inv,avold:=h.avold,os:=h.os,tape:=h.tape,output:=h.output,hsize:=h.hsize,ext:=h.ext}
theorem Run.inlgJ {P:Program} {I:World→Prop} {ops:Array Oper} {st:St} {K:St→Prop} {X:Type} (S:X→St) (Φ:X→Prop) {l rest:List Oper} {o:Oper} {j:Nat} {want g:Bool} (d:Nat) (hl:l=o::rest) (hg:o.guard=some (j,want)) (hd:o.dst=some d)
 (hT:g=true→EB P I o st (fun st'=> ∃ v,Φ v∧D4 (st'.put (some d) (.g g (st'.get d))) (S v)))
 (hF:g=false→ ∃ v x,Φ v∧D4 (st.put (some d) (.g g x)) (S v))
 (hK: ∀ v,Φ v→Cm P I ops rest (S v) K) (hgd:J3 st ops j want=some g:=by kernel_rfl):Cm P I ops l st K:=by
 subst hl
 simp only [Cm,dR,hg,hgd]
 refine .inl ⟨fun q=> .inl fun F a w G Q hI hR=>?_,fun q=>?_⟩
 ·refine Oper.wp_mono (fun _ _ ⟨_,G',⟨v,hv,hl⟩,hR'⟩=>?_) (hT q F a w G Q hI hR)
  exact⟨S v,G',hK v hv,(hR'.guarded q d).less hl⟩
 ·obtain⟨v,x,hv,hl⟩:=hF q
  rw [hd]
  exact⟨x,S v,hl,hK v hv⟩
theorem EB.ung {P:Program} {I:World→Prop} {o:Oper} {st:St} {K:St→Prop} {g:Bool} {x:V} (t:Nat) (hg:g=true) (h:EB P I o (st.put (some t) x) K) (hs:st.get t= .g g x:=by kernel_rfl):EB P I o st K:=by
 intro F a w G Q hI hR
 refine h F a w G Q hI ?_
 have hx:Ap w G x (a.tmps.getD t Go.undef):=by
  have:=hR.slots t
  have hs':st.tm.getD t .undef = .g g x:=hs
  rw [hs']at this
  simp only [Ap]at this
  rw [if_pos hg]at this
  exact this
 exact {
  dfr:=hR.dfr
  size:=by simp [St.put,hR.size]
  slots:=fun i=>by
   simp only [St.put,List.getD_eq_getElem?_getD,List.getElem?_set]
   by_cases hi:t=i
   ·subst hi
    by_cases hl:t<st.tm.length
    ·rw [if_pos rfl,if_pos hl,Option.getD_some];exact hx
    ·rw [if_pos rfl,if_neg hl,Option.getD_none];simp only [Ap]
   ·rw [if_neg hi]
    have:=hR.slots i
    simpa only [List.getD_eq_getElem?_getD] using this
  ghosts:=hR.ghosts,store:=hR.store,pures:=hR.pures,nodup:=hR.nodup
  inj:=hR.inj,lt:=hR.lt,new:=hR.new,wr:=hR.wr,avlt:=hR.avlt,inv:=hR.inv,avold:=hR.avold,os:=hR.os,tape:=hR.tape,output:=hR.output,hsize:=hR.hsize,ext:=hR.ext}
end Go.PL
