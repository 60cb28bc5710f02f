/- The pure logic: PlN, PlO, PlP, PlQ, PlR, PlU, PlW, PlS, PlT, PlV, PlX, PlXd, PlXe, PlXf, PlY. -/
import Derived.Test.YtfmknfnfpeopeaaGreatDoorPlAtoPlM
import Derived.LoopN
import Derived.ProofKit
import Derived.OpenShut
import Derived.Handy
import Derived.Lay
import Derived.LaidSub
import Derived.SevenTiedAt
import Derived.Lib.LaidTab
set_option linter.all false
namespace Go.PL
open Go Go.RowKit
section
variable {P:Program} {F:Fr} {st:St} {a:Act} {w:World} {G:Ay} {ops:Array Oper}
def K1 (w:World) (w':World):Prop:=JR w w'∧Cv w w'
theorem K1.below {w w' w'':World} (h:K1 w w') (hb:Below w'.heap.size w' w''):K1 w w'':=
 ⟨⟨hb.os.trans h.1.os,hb.tape.trans h.1.tape,hb.output.trans h.1.output⟩,h.2.trans (Er hb)⟩
theorem G9 {o:Oper} {v:Value} {K:Act→Prop} (hr: ∀ w',Cv w w'→(execOp a.eval o).run P w'= .ok (.value v) w') (h:K (a.put o.dst v)):o.quiet P a (K1 w) K:=
 ⟨v,fun w' hw'=>by unfold Oper.quietAt;rw [hr w' hw'.2];exact⟨rfl,rfl⟩,h⟩
theorem bI (h:R F st a w G) {o:Oper} {K:St→Prop} {K':Act→Prop} (hK: ∀ st' a',K st'→R F st' a' w G→K' a') (hs:jO P F.I o st K):o.quiet P a (K1 w) K':=by
 unfold jO at hs
 split at hs
 ·obtain⟨v,q1,q2⟩:=EI h rfl hs.1
  exact G9 q2 (hK _ _ hs.2 (h.put q1))
 ·obtain⟨v,q1,q2⟩:=EI h rfl hs.1
  exact G9 q2 (hK _ _ hs.2 (h.put q1))
 ·rename_i f xs hk
  obtain⟨h1,h2,r,hr,hc,hq⟩:=hs
  refine⟨WT r,fun w' hw'=>?_,hK _ _ hq (h.put ((EH hr).2 rfl))⟩
  unfold Oper.quietAt
  rw [Ml hk hc.ent w']
  exact⟨rfl,(Qz h rfl h1 h2 hr hc hw'.1 hw'.2).mono fun e w'' ⟨he,hb⟩=>⟨he,hw'.below hb⟩⟩
 ·exact hs.elim
theorem bJ (h:R F st a w G) {o:Oper} {g:Bool} {K:St→Prop} {K':Act→Prop} (hK: ∀ st' a',K st'→R F st' a' w G→K' a') (hs:jP P F.I o st g K):
 if g=true then o.quiet P a (K1 w) K' else K' (a.put o.dst Go.undef):=by
 unfold jP at hs
 have rdCase:(∃ x,(g=true→(De P st g o.op).1∧(De P st g o.op).2=x)∧K (st.put o.dst (.g g x)))→if g=true then o.quiet P a (K1 w) K' else K' (a.put o.dst Go.undef):=by
  rintro⟨x,hx,hs⟩
  split
  ·rename_i hg
   obtain⟨v,q1,q2⟩:=EI h hg (hx hg).1
   rw [(hx hg).2]at q1
   exact G9 q2 (hK _ _ hs (WW h hg q1))
  ·rename_i hg
   exact hK _ _ hs (Qy h (by simpa using hg))
 split at hs
 ·exact rdCase hs
 ·exact rdCase hs
 ·rename_i f xs hk
  obtain⟨h1,r,hr,hc,hq⟩:=hs
  split
  ·rename_i hg
   refine⟨WT r,fun w' hw'=>?_,hK _ _ hq (WW h hg ((EH hr).2 rfl))⟩
   unfold Oper.quietAt
   rw [Ml hk (hc hg).ent w']
   exact⟨rfl,(Qz h hg (h1 hg).1 (h1 hg).2 hr (hc hg) hw'.1 hw'.2).mono fun e w'' ⟨he,hb⟩=>⟨he,hw'.below hb⟩⟩
  ·rename_i hg
   exact hK _ _ hq (Qy h (by simpa using hg))
 ·exact hs.elim
theorem Ot {Q':Act→Prop} {K:St→Prop} (hQ: ∀ st' a',K st'→R F st' a' w G→Q' a'):
 ∀ (l:List Oper) (st:St) (a:Act),R F st a w G→Ui P F.I ops l st K→wpQuiet P ops (K1 w) Q' l a
 | [],st,a,h,hs=>hQ st a hs h
 | o::rest,st,a,h,hs=>by
   have hnext: ∀ st' a',Ui P F.I ops rest st' K→R F st' a' w G→wpQuiet P ops (K1 w) Q' rest a':=fun st' a' q hR=>Ot hQ rest st' a' hR q
   simp only [Ui,jQ]at hs
   simp only [wpQuiet]
   split at hs
   ·rename_i hg
    rw [EJ hg,if_pos rfl]
    exact bI h hnext hs
   ·rename_i j want hg
    split at hs
    ·rename_i g hq
     rw [G8 h hg hq]
     exact bJ h hnext hs
    ·exact hs.elim
def Ae (P:Program) (F:Fr) (c:Code) (st:St) (Q:Exit→St→Prop):Prop:=
 ∀ a w G,R F st a w G→c.wp P (fun e a' w'=> ∃ st' G',Q e st'∧R F st' a' w' G') a w
def C0 (K:St→Prop) (Q:Exit→St→Prop):Exit→St→Prop
 | .normal,st=>K st
 | e,st=>Q e st
def C3 (id:Nat) (Q:Exit→St→Prop):Exit→St→Prop
 | .exit j,st=>if j=id then Q .normal st else Q (.exit j) st
 | e,st=>Q e st
theorem Ae.seq {x y:Code} {Q:Exit→St→Prop} (h:Ae P F x st (C0 (fun st'=>Ae P F y st' Q) Q)):Ae P F (.seq x y) st Q:=
 fun a w G hR=>wp_seq (Code.wp_mono (fun e a' w' ⟨st',G',q,hR'⟩=>by
  cases e<;>simp only [Exit.then,C0]at q ⊢ <;>first | exact q a' w' G' hR' | exact⟨st',G',q,hR'⟩) (h a w G hR))
theorem Ae.skip {Q:Exit→St→Prop} (h:Q .normal st):Ae P F .skip st Q:=fun _ _ G hR=>wp_skip ⟨st,G,h,hR⟩
theorem Ae.ret {Q:Exit→St→Prop} (h:Q .ret st):Ae P F .ret st Q:=fun _ _ G hR=>wp_ret ⟨st,G,h,hR⟩
theorem Ae.exit {id:Nat} {Q:Exit→St→Prop} (h:Q (.exit id) st):Ae P F (.exit id) st Q:=fun _ _ G hR=>wp_exit ⟨st,G,h,hR⟩
theorem Ae.block {id:Nat} {c:Code} {Q:Exit→St→Prop} (h:Ae P F c st (C3 id Q)):Ae P F (.block id c) st Q:=
 fun a w G hR=>wp_block (Code.wp_mono (fun e a' w' ⟨st',G',q,hR'⟩=>by
  cases e<;>simp only [Exit.inBlock,C3]at q ⊢ <;>first
   | exact⟨st',G',q,hR'⟩
   | (split<;>rename_i hj<;>simp only [hj,if_true,if_false]at q<;>exact⟨st',G',q,hR'⟩)) (h a w G hR))
theorem Ae.cond {c:Operand} {x y:Code} {Q:Exit→St→Prop} {b:Bool} (hc:st.ev c= .c (.bool b)) (h1:b=true→Ae P F x st Q) (h2:b=false→Ae P F y st Q):Ae P F (.cond c x y) st Q:=by
 intro a w G hR
 have:=hR.ev c
 rw [hc]at this
 simp only [Ab,Ad]at this
 refine wp_cond this ?_
 cases b with
 | true=>exact h1 rfl a w G hR
 | false=>exact h2 rfl a w G hR
theorem Ae.region {id:Nat} {ops:Array Oper} {Q:Exit→St→Prop} (h:Da P F.I ops ops.toList st (Q .normal)):Ae P F (.region id ops false) st Q:=
 fun a w G hR=>wp_region_list (Or (K:=Q .normal) (fun st' _ _ G' q hR'=>⟨st',G',q,hR'⟩) _ _ _ _ _ hR h)
theorem Ae.regionQ {id:Nat} {ops:Array Oper} {Q:Exit→St→Prop} (h1:P.follows .mixedOrders =true) (h2:Region.lexB .any ops=true) (h:Ui P F.I ops ops.toList st (Q .normal)):Ae P F (.region id ops true) st Q:=by
 intro a w G hR
 refine wp_region_quiet (C:=K1 w) h1 h2 ⟨⟨rfl,rfl,rfl⟩,⟨Nat.le_refl _,fun _ _=>rfl⟩⟩ ?_
 exact Ot (K:=Q .normal) (fun st' a' q hR' w' hw'=>⟨st',G,q,hR'.same hw'.1 hw'.2⟩) _ _ _ hR h
theorem Ae.mono {c:Code} {Q Q':Exit→St→Prop} (h:Ae P F c st Q) (hq: ∀ e st',Q e st'→Q' e st'):Ae P F c st Q':=
 fun a w G hR=>Code.wp_mono (fun _ _ _ ⟨st',G',q,hR'⟩=>⟨st',G',hq _ _ q,hR'⟩) (h a w G hR)
theorem Ae.less {c:Code} {st':St} {Q:Exit→St→Prop} (hl:Ck st st') (h:Ae P F c st' Q):Ae P F c st Q:=
 fun a w G hR=>h a w G (hR.less hl)
theorem Ae.loop {X:Type} (S:X→St) (inv:X→Prop) (μ:X→Nat) {c:Code} {Q:Exit→St→Prop} (x0:X) (h0:inv x0) (hl:Ck st (S x0))
 (hb: ∀ x,inv x→Ae P F c (S x) (C0 (fun st'=> ∃ y,inv y∧μ y<μ x∧Ck st' (S y)) Q)):Ae P F (.loop c) st Q:=by
 intro a w G hR
 refine wp_loop_ghost (fun n a' w'=> ∃ x G',inv x∧μ x=n∧R F (S x) a' w' G') (μ x0) ⟨x0,G,h0,rfl,hR.less hl⟩ ?_
 intro n a' w' ⟨x,G',hx,hn,hR'⟩
 subst hn
 refine Code.wp_mono (fun e a'' w'' ⟨st',G'',q,hR''⟩=>?_) (hb x hx a' w' G' hR')
 cases e<;>simp only [C0]at q
 case normal=>
  obtain⟨y,hy,hm,hl'⟩:=q
  exact⟨μ y,hm,y,G'',hy,rfl,hR''.less hl'⟩
 all_goals exact⟨st',G'',q,hR''⟩
end
end Go.PL
namespace Go.PL
open Go Go.RowKit
def Mm (P:Program) (st:St):ResultVar→Prop×V
 | .tmp t=>(True,Bn st (st.get t))
 | .cell t T=>let r:=C9 P T st (st.get t)
   (r.1,Bn st r.2)
def EK (P:Program) (st:St):List ResultVar→Prop×List V
 | []=>(True,[])
 | x::xs=>((Mm P st x).1∧(EK P st xs).1,(Mm P st x).2::(EK P st xs).2)
def Di (P:Program) (st:St):List ResultVar→Prop×V
 | [x]=>Mm P st x
 | xs=>((EK P st xs).1, .tup (EK P st xs).2)
def ai (P:Program) (fn:Func) (Q:V→Prop):Exit→St→Prop
 | .normal,st=>(Di P st fn.results.toList).1∧(Di P st fn.results.toList).2.pure =true∧Q (Di P st fn.results.toList).2
 | .ret,st=>(Di P st fn.results.toList).1∧(Di P st fn.results.toList).2.pure =true∧Q (Di P st fn.results.toList).2
 | _,_=>False
def St.start (args:List V) (n:Nat):St:={tm:=args++List.replicate (n - args.length) .undef,so:=[]}
theorem DY {w:World} {G:Ay}: ∀ {xs:List V} {vs:List Value},Ap w G xs vs→xs.length=vs.length
 | [],vs,h=>by simp only [Ap]at h;subst h;rfl
 | x::xs,vs,h=>by
   simp only [Ap]at h
   obtain⟨v,r,rfl,_,h2⟩:=h
   simp [DY h2]
def Hb (I:World→Prop):Prop:= ∀ w w':World,I w→w.heap.size≤w'.heap.size→(∀ b,b<w.heap.size→w'.heap[b]? =w.heap[b]?)→I w'
theorem R.start {I:World→Prop} (hst:Hb I) {w:World} (hI:I w) {vs:Array Value} {av:Nat→Prop} (hav: ∀ b,av b→b<w.heap.size) {args:List V} (h:Ap w (im av) args vs.toList) (n:Nat):
 R ⟨w,av,fun _=>False,I,[]⟩ (St.start args n) {tmps:=vs++Array.replicate (n - vs.size) Go.undef,defers:=[]} w (im av):=by
 have hl:=DY h
 have hl':args.length=vs.size:=by simpa using hl
 exact {
  dfr:=rfl
  size:=by simp [St.start,hl']
  slots:=by
   intro i
   simp only [St.start,List.getD_eq_getElem?_getD,Array.getD_eq_getD_getElem?]
   by_cases hi:i<args.length
   ·obtain⟨v,q1,q2⟩:=GM h i hi
    have e1:(vs++Array.replicate (n - vs.size) Go.undef)[i]? =some v:=by
     rw [Array.getElem?_append_left (by omega)];simpa using q1
    rw [e1,List.getElem?_append_left hi]
    simpa [List.getD_eq_getElem?_getD] using q2
   ·rw [List.getElem?_append_right (by omega),List.getElem?_replicate]
    split<;>simp [Ab]
  ghosts:=by simp [St.start,Ap]
  store:=by simp [St.start]
  deep:=by simp [St.start]
  pures:=by simp [St.start]
  nodup:=by simp [St.start]
  inj:=by simp [im]
  lt:=by simp [im]
  new:=by simp [im]
  wr:=by simp [im]
  avlt:=hav
  inv:=fun w' h1 h2=>hst w w' hI h1 (fun b hb=>h2 b hb (by simp))
  avold:=by simp
  os:=rfl,tape:=rfl,output:=rfl,hsize:=Nat.le_refl _,ext:=fun _ _ _=>rfl}
section
variable {P:Program} {F:Fr} {st:St} {a:Act} {w:World} {G:Ay}
theorem R.out (h:R F st a w G) (hold: ∀ b, ¬F.old b) {x:V} {v:Value} (hp:(Bn st x).pure =true) (hr:Ab w G x v):Ab w (im F.av) (Bn st x) v:=by
 refine Uf h (fun b _ hb=>(h.wr b).2 (.inl hb)) (fun id _ _ b hb hav=>?_) hp hr
 rcases h.new id b hb with q | q
 ·have:=h.avlt b hav;omega
 ·exact hold b q
theorem Uk {t:TypeId} {x:V} {u:Value} (hx:Ab w G x u) (hs:(C9 P t st x).1): ∃ p,u= .pointer (some p):=by
 unfold C9 at hs
 split at hs
 ·simp only [Ab,Ad]at hx
  obtain⟨b,_,rfl⟩:=hx
  exact⟨_,rfl⟩
 ·simp only [Ab,Ad]at hx
  obtain⟨_,b,o,rfl,_⟩:=hx
  exact⟨_,rfl⟩
 ·exact hs.elim
def Hc (tmps:Array Value):ResultVar→Sem Value
 | .tmp t=>pure (tmps.getD t Go.undef)
 | .cell a t=>do loadVar t (←asAddr (tmps.getD a Go.undef))
theorem QA (h:R F st a w G) (hold: ∀ b, ¬F.old b) {x:ResultVar} (hs:(Mm P st x).1) (hp:(Mm P st x).2.pure =true):
 ∃ v,(Hc a.tmps x).run P w= .ok v w∧Ab w (im F.av) (Mm P st x).2 v:=by
 cases x with
 | tmp t=>exact⟨_,rfl,h.out hold hp (h.slots t)⟩
 | cell t T=>
   simp only [Mm]at hs hp ⊢
   obtain⟨v,q1,q2⟩:=JN (P:=P) h (h.slots t) hs
   obtain⟨p,hptr⟩:=Uk (h.slots t) hs
   refine⟨v,?_,h.out hold hp q1⟩
   have:=q2 w (Cv.refl w)
   rw [hptr]at this
   simp only [Hc,hptr,asAddr,Sem.run_bind,Sem.run_pure,Result.andThen_ok]
   simpa [Instr.loadAt,Instr.sureAddr] using this
theorem Ou (h:R F st a w G) (hold: ∀ b, ¬F.old b): ∀ {xs:List ResultVar},(EK P st xs).1→BZ (EK P st xs).2=true→
 ∃ vs,(xs.mapM (Hc a.tmps)).run P w= .ok vs w∧Ap w (im F.av) (EK P st xs).2 vs
 | [],_,_=>⟨[],by simp,by simp [EK,Ap]⟩
 | x::xs,hs,hp=>by
   simp only [EK]at hs hp ⊢
   simp only [BZ,Bool.and_eq_true]at hp
   obtain⟨v,q1,q2⟩:=QA h hold hs.1 hp.1
   obtain⟨vs,k1,k2⟩:=Ou h hold hs.2 hp.2
   exact⟨v::vs,by simp [List.mapM_cons,q1,k1],by simp only [Ap];exact⟨v,vs,rfl,q2,k2⟩⟩
theorem EL {fn:Func} {tmps:Array Value} {vs:List Value} (h:(fn.results.toList.mapM (Hc tmps)).run P w= .ok vs w):
 (results fn tmps).run P w= .ok (match vs with | [v]=>v | vs=> .tuple vs.toArray) w:=by
 have e:fn.results.mapM (Hc tmps)=List.toArray<$>fn.results.toList.mapM (Hc tmps):=by
  obtain⟨l,hl⟩: ∃ l:List ResultVar,fn.results=l.toArray:=⟨fn.results.toList,by simp⟩
  rw [hl,List.mapM_toArray]
 have e2:results fn tmps=(do
  let vs ←fn.results.mapM (Hc tmps)
  pure (if h:vs.size=1 then vs[0]else .tuple vs)):=by
  unfold results
  congr 1
  all_goals (try (congr 1;funext x;cases x<;>rfl))
 rw [e2,e]
 simp only [Sem.run_bind,Sem.run_map,h,Result.andThen_ok]
 match vs with
 | []=>simp
 | [v]=>simp
 | v::u::vs=>simp
theorem YM (h:R F st a w G) (hold: ∀ b, ¬F.old b) {fn:Func} (hs:(Di P st fn.results.toList).1) (hp:(Di P st fn.results.toList).2.pure =true):
 ∃ v,(results fn a.tmps).run P w= .ok v w∧Ab w (im F.av) (Di P st fn.results.toList).2 v:=by
 unfold Di at *
 split at hs
 ·rename_i x hx
  simp only [hx]at hp ⊢
  obtain⟨v,q1,q2⟩:=QA h hold hs hp
  exact⟨v,by have:=EL (P:=P) (w:=w) (fn:=fn) (tmps:=a.tmps) (vs:=[v]) (by rw [hx];simp [q1]);simpa using this,q2⟩
 ·rename_i xs hne
  split at hp
  ·rename_i x hx;exact absurd hx (hne x)
  ·obtain⟨vs,q1,q2⟩:=Ou h hold hs (by simpa only [V.pure] using hp)
   refine⟨.tuple vs.toArray,?_,?_⟩
   ·have:=EL (P:=P) (w:=w) (fn:=fn) (tmps:=a.tmps) q1
    rw [this]
    have hl:=DY q2
    match hvs:vs with
    | []=>rfl
    | [v]=>
      exfalso
      have hxl: ∀ xs:List ResultVar,(EK P st xs).2.length =xs.length:=by
       intro xs;induction xs with
       | nil=>rfl
       | cons x xs ih=>simp [EK,ih]
      rw [hxl]at hl
      match hr:fn.results.toList,hl with
      | [x],_=>exact hne x hr
    | v::u::vs=>rfl
   ·simp only [Ab];exact⟨_,rfl,by simpa using q2⟩
theorem R.below (h:R F st a w G) (hold: ∀ b, ¬F.old b):Below F.w0.heap.size F.w0 w:=⟨h.os,h.tape,h.output,h.hsize,fun b hb=>h.ext b hb (hold b)⟩
end
theorem CC.of {P:Program} {I:World→Prop} (hst:Hb I) {f:FuncId} {fn:Func} {c:Code} {args:List V} {Q:V→Prop} (hent:PL.ent P f=true) (hf:P.funcs[f]? =some fn) (hb:fn.body=some c)
 (h: ∀ F,F.I=I→Ae P F c (St.start args fn.ntmps) (ai P fn Q)):CC P I f args Q:=by
 refine⟨hent,fun w vs av hI hav hargs=>calls_of_wp hf hb ?_⟩
 have hR:=R.start hst hI hav hargs fn.ntmps
 refine Code.wp_mono (fun e a' w' ⟨st',G',q,hR'⟩=>?_) (h _ rfl _ _ _ hR)
 have fin:(Di P st' fn.results.toList).1∧(Di P st' fn.results.toList).2.pure =true∧Q (Di P st' fn.results.toList).2→
  a'.defers=[]∧ ∃ v,(results fn a'.tmps).run P w'= .ok v w'∧(fun(e:Ending) w''=> ∃ v r,e= .returned v∧Q r∧r.pure=true∧Ab w'' (im av) r v∧Below w.heap.size w w'') (.returned v) w':=by
  intro ⟨q1,q2,q3⟩
  obtain⟨v,k1,k2⟩:=YM hR' (fun _ hx=>hx) (fn:=fn) q1 q2
  exact⟨hR'.dfr,v,k1,v,_,rfl,q3,q2,k2,hR'.below (fun _ hx=>hx)⟩
 cases e<;>simp only [ai]at q<;>first | exact fin q | exact q.elim
end Go.PL
namespace Go.PL
open Go Go.RowKit
section
variable {P:Program} {I:World→Prop} {F:Fr} {ops:Array Oper} {rest:List Oper} {st st1:St} {d:Option Nat} {op:Op} {ty:TypeId} {pos:String} {af:Array Edge}
variable {K:St→Prop}
theorem C3.out {Q:Exit→St→Prop} {i:Nat} (h:Q .normal st):C3 i Q (.exit i) st:=by simp only [C3,if_true];exact h
variable {j:Nat} {want g:Bool}
theorem CC.body (hsta:Hb I) {f:FuncId} {fn:Func} {c:Code} {args:List V} {Q:V→Prop} {n:Nat} {rs:List ResultVar} (hent:PL.ent P f=true) (hf:P.funcs[f]? =some fn) (hb:fn.body=some c) (hn:fn.ntmps=n) (hr:fn.results=rs.toArray)
 (hst:St.start args n=st)
 (h: ∀ w0 av old gv,Ae P ⟨w0,av,old,I,gv⟩ c st (fun e st'=>(e= .normal ∨e= .ret)∧(Di P st' rs).1∧(Di P st' rs).2.pure =true∧Q (Di P st' rs).2)):CC P I f args Q:=by
 refine CC.of hsta hent hf hb (fun F hF=>?_)
 obtain⟨w0,av,old,I',gv⟩:=F
 simp only at hF;subst hF
 rw [hn,hst]
 refine(h w0 av old gv).mono fun e st' ⟨he,q⟩=>?_
 have:fn.results.toList=rs:=by rw [hr]
 rcases he with rfl | rfl<;>simp only [ai,this]<;>exact q
end
end Go.PL
namespace Go.PL
open Go Go.RowKit
attribute [go_sem] B2 De rd bnd Lm St.arg St.args St.ev St.get I2 D7 Dh Qm Ll Pk JO Bt HL Is Iu fU Na YF Cy S6
 St.put St.after St.look St.lookR St.setCs St.cutAt St.freeze St.new St.kill As.kill St.start St.parts
 C9 toV BJ GW BY Gr Fq Lj YB YC Gs HN Mc Li JT G6 V.cells Fs Pl YG EY Om HQ Bh PL.ef Mh
 GD HS Bn Mk YH Cx FX D5 C.men BE V.men Ig C.flat V.flat Ii C.pure Ao V.pure BZ Di Mm EK HG Iz IA St.okFrz
attribute [go_sem] List.getD_cons_zero List.getD_cons_succ List.set_cons_zero List.set_cons_succ List.map_cons List.map_nil List.filter_cons List.filter_nil List.find?_cons List.find?_nil
 List.cons_append List.nil_append List.length_cons List.length_nil List.replicate_succ List.replicate_zero List.take_succ_cons List.take_zero List.drop_succ_cons List.drop_zero List.flatMap_cons List.flatMap_nil List.append_nil
 List.all_cons List.all_nil Bool.and_true Bool.true_and Bool.and_false Bool.false_and Bool.or_false Bool.or_true Bool.false_or Bool.true_or
 beq_self_eq_true if_true if_false true_and and_true Option.map_some Option.map_none List.getElem?_cons_zero List.getElem?_cons_succ
theorem jR {α:Type} (a b:α):(if true=true then a else b)=a:=rfl
theorem jS {α:Type} (a b:α):(if false=true then a else b)=b:=rfl
theorem l9:(true=true)=True:=by simp
theorem ma:(false=true)=False:=by simp
theorem jT (p:Prop):(true=true→p)=p:=by simp
theorem ite_ff' (b:Bool):(if b then true else false)=b:=by cases b<;>rfl
theorem beq_true' (b:Bool):(b==true)=b:=by cases b<;>rfl
theorem beq_false' (b:Bool):(b==false)= !b:=by cases b<;>rfl
theorem f0 (b c:Bool):(if b then c else false)=(b&&c):=by cases b<;>rfl
theorem jU (b c:Bool):(if b then true else c)=(b||c):=by cases b<;>rfl
attribute [go_sem] jR jS l9 ma jT ite_ff' beq_true' beq_false' f0 jU Bool.not_true Bool.not_false Bool.not_not
end Go.PL
namespace Go.PL
open Go Go.RowKit
def WX:List V→List V→Prop
 | [],[]=>True
 | a::l,b::m=>(b= .undef ∨b=a)∧WX l m
 | _,_=>False
theorem WX.get: ∀ {l m:List V},WX l m→m.length=l.length∧ ∀ i,m.getD i .undef = .undef ∨m.getD i .undef =l.getD i .undef
 | [],[],_=>⟨rfl,fun _=> .inr rfl⟩
 | a::l,b::m,h=>by
   obtain⟨h1,h2⟩:=h
   obtain⟨q1,q2⟩:=WX.get h2
   refine⟨by simp [q1],fun i=>?_⟩
   cases i with
   | zero=>simpa using h1
   | succ i=>simpa using q2 i
 | [],_::_,h=>h.elim
 | _::_,[],h=>h.elim
theorem gc (a b:Nat):(([a]:List Nat)==[b])=(a==b):=by simp [List.cons_beq_cons]
theorem gf (a b:Nat):(([a]:List Nat) != [b])=(a != b):=by simp [bne,List.cons_beq_cons]
theorem dx (a b c d:Nat):(([a,c]:List Nat)==[b,d])=(a==b&&c==d):=by simp [List.cons_beq_cons]
theorem jV (a b:Nat):(([a]:List Nat)=[b])=(a=b):=by simp
theorem WY (z:List C):B0 z 0=[]:=by simp [B0]
theorem Ov (z:List C) (k:Nat):B0 z (k+1)=z++B0 z k:=by
 unfold B0
 have e:(k+1)*z.length=z.length+k*z.length:=by rw [Nat.add_mul,Nat.one_mul,Nat.add_comm]
 rw [e,List.range_add,List.map_append]
 congr 1
 ·apply List.ext_getElem<;>simp
  intro i h
  rw [Nat.mod_eq_of_lt h]
  simp [h]
 ·rw [List.map_map]
  apply List.map_congr_left
  intro i _
  simp [Function.comp]
theorem Vx (k:IntKind) (l:List Int):Ao (l.map (C.int k))=true:=Ks _ (fun _=>rfl) l
theorem Vy (l:List (List UInt8)):Ao (l.map C.str)=true:=Ks _ (fun _=>rfl) l
theorem S8 (l:List Bool):Ao (l.map C.bool)=true:=Ks _ (fun _=>rfl) l
theorem JV {g:C→C} (hg: ∀ c:C,c.pure=true→g c=c): ∀ {l:List C},Ao l=true→l.map g=l
 | [],_=>rfl
 | c::l,h=>by
   simp only [Ao,Bool.and_eq_true]at h
   rw [List.map_cons,hg c h.1,JV hg h.2]
theorem YN (id:Ah) {c:C} (h:c.pure=true):FX id c=c:=by simp [FX,FT id c h]
theorem YO {l:List C} (id:Ah) (h:Ao l=true):l.map (FX id)=l:=JV (fun _ hc=>YN id hc) h
theorem bK {id:Ah} {len:Nat} {cs:List C} {c:C} (h:c.pure=true):HG id len cs c=c:=by
 cases c<;>simp_all [HG,C.pure,AG]
theorem bL {id:Ah} {len:Nat} {cs:List C} {l:List C} (h:Ao l=true):l.map (HG id len cs)=l:=JV (fun _ hc=>bK hc) h
theorem bM {c:C} (h:c.pure=true):Mk c=[]:=by cases c<;>simp_all [Mk,C.pure]
theorem Ul: ∀ {l:List C},Ao l=true→l.flatMap Mk=[]
 | [],_=>rfl
 | c::l,h=>by
   simp only [Ao,Bool.and_eq_true]at h
   rw [List.flatMap_cons,bM h.1,Ul h.2];rfl
attribute [go_sem] Bk Vx Vy S8 YO bL Ul AG
attribute [go_sem] gc gf dx jV WY Ov Nat.reduceLeDiff Nat.reduceLT Nat.le_refl Nat.reduceBEq Nat.reduceBNe Nat.reduceMul Nat.reduceAdd Nat.reduceSub
end Go.PL
namespace Go.PL
open Go Go.RowKit
section
variable {P:Program} {F:Fr} {st:St} {c:Code} {Q:Exit→St→Prop}
end
end Go.PL
namespace Go.PL
open Go Go.RowKit
def P0 (st:St) (x:Operand):Option (FuncId×List C):=
 match st.ev x with
 | .c (.fn f)=>some (f,[])
 | .c (.clo f cs)=>some (f,cs)
 | _=>none
def St.enter (st:St) (k:Nat) (args:List V) (n:Nat):St:=⟨args++List.replicate (n - args.length) .undef,st.so,st.tm++st.gh,k::st.pre⟩
def St.back (st:St) (m:Nat) (pre:Ah) (d:Option Nat) (r:V):St:=(⟨st.gh.take m,st.so,st.gh.drop m,pre⟩:St).put d r
def KS (P:Program) (st:St):ResultVar→Prop×V
 | .tmp t=>(True,st.get t)
 | .cell t T=>C9 P T st (st.get t)
def Ch (P:Program) (st:St):List ResultVar→Prop×List V
 | []=>(True,[])
 | x::xs=>((KS P st x).1∧(Ch P st xs).1,(KS P st x).2::(Ch P st xs).2)
def Cd (P:Program) (st:St):List ResultVar→Prop×V
 | [x]=>KS P st x
 | xs=>((Ch P st xs).1, .tup (Ch P st xs).2)
section
variable {P:Program} {F:Fr} {st:St} {a:Act} {w:World} {G:Ay}
theorem QB (h:R F st a w G) {x:ResultVar} (hs:(KS P st x).1): ∃ v,(Hc a.tmps x).run P w= .ok v w∧Ab w G (KS P st x).2 v:=by
 cases x with
 | tmp t=>exact⟨_,rfl,h.slots t⟩
 | cell t T=>
   simp only [KS]at hs ⊢
   obtain⟨v,q1,q2⟩:=JN (P:=P) h (h.slots t) hs
   obtain⟨p,hptr⟩:=Uk (h.slots t) hs
   refine⟨v,?_,q1⟩
   have:=q2 w (Cv.refl w)
   rw [hptr]at this
   simp only [Hc,hptr,asAddr,Sem.run_bind,Sem.run_pure,Result.andThen_ok]
   simpa [Instr.loadAt,Instr.sureAddr] using this
theorem Ow (h:R F st a w G): ∀ {xs:List ResultVar},(Ch P st xs).1→ ∃ vs,(xs.mapM (Hc a.tmps)).run P w= .ok vs w∧Ap w G (Ch P st xs).2 vs
 | [],_=>⟨[],by simp,by simp [Ch,Ap]⟩
 | x::xs,hs=>by
   simp only [Ch]at hs ⊢
   obtain⟨v,q1,q2⟩:=QB h hs.1
   obtain⟨vs,k1,k2⟩:=Ow h hs.2
   exact⟨v::vs,by simp [List.mapM_cons,q1,k1],by simp only [Ap];exact⟨v,vs,rfl,q2,k2⟩⟩
theorem bN {xs:List ResultVar}:(Ch P st xs).2.length =xs.length:=by
 induction xs with
 | nil=>rfl
 | cons x xs ih=>simp [Ch,ih]
theorem I6 (h:R F st a w G) {fn:Func} (hs:(Cd P st fn.results.toList).1): ∃ v,(results fn a.tmps).run P w= .ok v w∧Ab w G (Cd P st fn.results.toList).2 v:=by
 generalize hx:fn.results.toList=xs at hs ⊢
 match xs,hx,hs with
 | [x],hx,hs=>
   simp only [Cd]at hs ⊢
   obtain⟨v,q1,q2⟩:=QB h hs
   exact⟨v,by have:=EL (P:=P) (w:=w) (fn:=fn) (tmps:=a.tmps) (vs:=[v]) (by rw [hx];simp [q1]);simpa using this,q2⟩
 | [],hx,hs=>
   refine⟨.tuple #[],?_,by simp [Cd,Ch,Ab,Ap]⟩
   have:=EL (P:=P) (w:=w) (fn:=fn) (tmps:=a.tmps) (vs:=[]) (by rw [hx];simp)
   simpa using this
 | x::y::xs,hx,hs=>
   simp only [Cd]at hs ⊢
   obtain⟨vs,q1,q2⟩:=Ow h hs
   refine⟨.tuple vs.toArray,?_,by simp only [Ab];exact⟨_,rfl,by simpa using q2⟩⟩
   have:=EL (P:=P) (w:=w) (fn:=fn) (tmps:=a.tmps) (by rw [hx];exact q1)
   rw [this]
   have hl:=DY q2
   rw [bN]at hl
   match vs,hl with
   | v::u::vs,_=>rfl
theorem GE {w:World} {G:Ay}: ∀ {xs ys:List V} {us vs:List Value},Ap w G xs us→Ap w G ys vs→Ap w G (xs++ys) (us++vs)
 | [],_,us,_,h,h'=>by simp only [Ap]at h;subst h;simpa using h'
 | x::xs,ys,us,vs,h,h'=>by
   simp only [Ap]at h
   obtain⟨v,r,rfl,h1,h2⟩:=h
   simp only [List.cons_append,Ap]
   exact⟨v,r++vs,rfl,h1,GE h2 h'⟩
theorem Ox {w:World} {G:Ay}: ∀ {xs:List V} {us vs:List Value},Ap w G xs (us++vs)→Ap w G (xs.take us.length) us∧Ap w G (xs.drop us.length) vs
 | xs,[],vs,h=>⟨by simp [Ap],by simpa using h⟩
 | [],u::us,vs,h=>by simp [Ap]at h
 | x::xs,u::us,vs,h=>by
   simp only [List.cons_append,Ap]at h
   obtain⟨v,r,e,h1,h2⟩:=h
   injection e with e1 e2;subst e1 e2
   obtain⟨k1,k2⟩:=Ox h2
   simp only [List.length_cons,List.take_succ_cons,List.drop_succ_cons,Ap]
   exact⟨⟨_,_,rfl,h1,k1⟩,k2⟩
theorem JW {w:World} {G:Ay}: ∀ {xs:List V} {us:List Value},xs.length=us.length→(∀ i,Ab w G (xs.getD i .undef) (us.getD i Go.undef))→Ap w G xs us
 | [],[],_,_=>by simp [Ap]
 | x::xs,u::us,hl,h=>by
   simp only [Ap]
   exact⟨u,us,rfl,by simpa using h 0,JW (by simpa using hl) (fun i=>by simpa using h (i+1))⟩
 | [],_::_,hl,_=>by simp at hl
 | _::_,[],hl,_=>by simp at hl
theorem Nk {w:World} {G:Ay}: ∀ {cs:List C} {us:List Value},Ai w G cs us→Ap w G (cs.map V.c) us
 | [],[],_=>by simp [Ap]
 | c::cs,u::us,h=>by
   simp only [Ai]at h
   simp only [List.map_cons,Ap]
   exact⟨u,us,rfl,by simp only [Ab];exact h.1,Nk h.2⟩
 | [],_::_,h=>by simp [Ai]at h
 | _::_,[],h=>by simp [Ai]at h
theorem R.enter (h:R F st a w G) (k:Nat) {args:List V} {us:Array Value} (ha:Ap w G args us.toList) (n:Nat):
 R {F with gv:=a.tmps.toList++F.gv} (st.enter k args n) {tmps:=us++Array.replicate (n - us.size) Go.undef,defers:=[]} w G:=by
 have hl:=DY ha
 have hl':args.length=us.size:=by simpa using hl
 exact {
  dfr:=rfl
  size:=by simp [St.enter,hl']
  slots:=by
   intro i
   simp only [St.enter,List.getD_eq_getElem?_getD,Array.getD_eq_getD_getElem?]
   by_cases hi:i<args.length
   ·obtain⟨v,q1,q2⟩:=GM ha i hi
    have e1:(us++Array.replicate (n - us.size) Go.undef)[i]? =some v:=by
     rw [Array.getElem?_append_left (by omega)];simpa using q1
    rw [e1,List.getElem?_append_left hi]
    simpa [List.getD_eq_getElem?_getD] using q2
   ·rw [List.getElem?_append_right (by omega),List.getElem?_replicate]
    split<;>simp [Ab]
  ghosts:=GE (JW (by simpa using h.size.symm) (fun i=>by
   have:=h.slots i
   simpa [List.getD_eq_getElem?_getD,Array.getD_eq_getD_getElem?] using this)) h.ghosts
  store:=h.store,deep:=h.deep,pures:=h.pures,nodup:=h.nodup,inj:=h.inj,lt:=h.lt,new:=h.new,wr:=h.wr,avlt:=h.avlt,inv:=h.inv,avold:=h.avold
  os:=h.os,tape:=h.tape,output:=h.output,hsize:=h.hsize,ext:=h.ext}
theorem YP {w:World} {G:Ay} {xs:List V} {us:List Value} (h:Ap w G xs us) (i:Nat):Ab w G (xs.getD i .undef) (us.getD i Go.undef):=by
 by_cases hi:i<xs.length
 ·obtain⟨v,q1,q2⟩:=GM h i hi
  rw [List.getD_eq_getElem?_getD (l:=us),q1];exact q2
 ·have:xs.getD i .undef = .undef :=by simp [List.getD_eq_getElem?_getD,hi]
  rw [this];simp only [Ab]
theorem R.back {a':Act} {st':St} (hd:a.defers=[]) {gv:List Value} (hgv:F.gv=a.tmps.toList++gv) (h:R F st' a' w G) {m:Nat} (hm:m=a.tmps.size) (pre:Ah):R {F with gv:=gv} ⟨st'.gh.take m,st'.so,st'.gh.drop m,pre⟩ a w G:=by
 have hg:=h.ghosts
 rw [hgv]at hg
 obtain⟨h1,h2⟩:=Ox hg
 have e:a.tmps.toList.length=m:=by simp [hm]
 rw [e]at h1 h2
 exact {
  dfr:=hd
  size:=by have:=DY h1;simp at this ⊢;omega
  slots:=fun i=>by
   have:=YP h1 i
   simpa [List.getD_eq_getElem?_getD,Array.getD_eq_getD_getElem?] using this
  ghosts:=h2
  store:=h.store,deep:=h.deep,pures:=h.pures,nodup:=h.nodup,inj:=h.inj,lt:=h.lt,new:=h.new,wr:=h.wr,avlt:=h.avlt,inv:=h.inv,avold:=h.avold
  os:=h.os,tape:=h.tape,output:=h.output,hsize:=h.hsize,ext:=h.ext}
end
def lU (P:Program) (rs:List ResultVar) (m:Nat) (pre:Ah) (d:Option Nat) (K:St→Prop):Exit→St→Prop
 | .normal,st=>(Cd P st rs).1∧K (st.back m pre d (Cd P st rs).2)
 | .ret,st=>(Cd P st rs).1∧K (st.back m pre d (Cd P st rs).2)
 | _,_=>False
theorem Eg.inline {P:Program} {I:World→Prop} {o:Oper} {st:St} {K:St→Prop} {x:Operand} {xs:List Operand} {c:Call} {s:Prop} {vs:List V} {f:FuncId} {cs:List C} {fn:Func} {body:Code} {n:Nat} {rs:List ResultVar} (k:Nat)
 (ho:o.op= .call c) (hcal:c.callee= .value x) (hxs:c.args.toList=xs) (ha:st.args true xs=(s,vs)) (hs:s) (hf:P0 st x=some (f,cs)) (hent:ent P f=true) (hfn:P.funcs[f]? =some fn) (hb:fn.body=some body) (hn:fn.ntmps=n) (hr:fn.results=rs.toArray)
 (h: ∀ w0 av old gv,Ae P ⟨w0,av,old,I,gv⟩ body (st.enter k (vs++cs.map V.c) n) (lU P rs st.tm.length st.pre o.dst K)):Eg P I o st K:=by
 intro F a w G Q hI hR
 have hargs:Ap w G vs (xs.map a.eval):=by
  have:=hR.args (g:=true) rfl (xs:=xs) (by rw [ha];exact hs)
  rw [ha]at this;exact this
 obtain⟨arr,hev,hcs⟩: ∃ arr:Array Value,a.eval x= .func (.func f) #[] arr∧Ai w G cs arr.toList:=by
  have hx:=hR.ev x
  unfold P0 at hf
  split at hf
  ·rename_i f' he
   rw [he]at hx
   simp only [Option.some.injEq,Prod.mk.injEq]at hf
   obtain⟨rfl,rfl⟩:=hf
   simp only [Ab,Ad]at hx
   exact⟨#[],hx,by simp [Ai]⟩
  ·rename_i f' cs' he
   rw [he]at hx
   simp only [Option.some.injEq,Prod.mk.injEq]at hf
   obtain⟨rfl,rfl⟩:=hf
   simpa only [Ab,Ad] using hx
  ·cases hf
 have hrun:(execOp a.eval o).run P w= .ok (.enter f ((xs.map a.eval).toArray ++arr)) w:=by
  have e:c.args.map a.eval=(xs.map a.eval).toArray :=by apply Array.ext';simp [←hxs]
  simp [execOp,ho,resolve,hcal,hev,Deferred.ofValue,invoke,run_callFunc' hent,e]
 unfold Oper.wp Oper.upon
 rw [hrun]
 simp only
 obtain⟨w0,av,old,I',gv⟩:=F
 simp only at hI;subst hI
 have hall:Ap w G (vs++cs.map V.c) ((xs.map a.eval).toArray ++arr).toList :=by
  simpa using GE hargs (Nk hcs)
 refine calls_of_wp hfn hb ?_
 have hR0:=hR.enter k hall fn.ntmps
 rw [hn]at hR0
 rw [hn]
 refine Code.wp_mono (fun e a' w' ⟨st',G',q,hR'⟩=>?_) (h _ _ _ _ _ _ _ hR0)
 have hrs:fn.results.toList=rs:=by rw [hr]
 have fin:(Cd P st' rs).1∧K (st'.back st.tm.length st.pre o.dst (Cd P st' rs).2)→
  a'.defers=[]∧ ∃ v,(results fn a'.tmps).run P w'= .ok v w'∧ah ⟨w0,av,old,I',gv⟩ K (a.put o.dst v) w':=by
  intro ⟨q1,q2⟩
  rw [←hrs]at q1 q2
  obtain⟨v,k1,k2⟩:=I6 hR' (fn:=fn) q1
  refine⟨hR'.dfr,v,k1,_,G',q2,?_⟩
  exact(R.back hR.dfr rfl hR' hR.size.symm st.pre).put k2
 cases e<;>simp only [lU]at q<;>first | exact fin q | exact q.elim
end Go.PL
namespace Go.PL
open Go Go.RowKit Go.ChangeShapes Go.WideShapes
theorem K2 {H:Type} {enc:TypeId×Value→H} {P:Program} (hl:laidOutB P=true) {W W':World} (hb:Below W.heap.size W W'):
 ∀ {ts:List TypeId} {vs:List Value} {ds:List (DataW H)} {ps:List MemPlace},(ts.all fun t=>P.readableRec t&&decide (t<P.types.size))=true→DataW.TrodAll enc P W 0 (fun _=>true) true ts vs ds ps→(∀ x∈ps,x.block<W.heap.size)→
   DataW.TrodAll enc P W' 0 (fun b=>decide (b<W.heap.size)) true ts vs ds ps
 | [],_,_,_,_,h,_=>by
   obtain⟨rfl,rfl,rfl⟩:=trodAll_nil h
   exact trodAll_mk0
 | t::ts,_,_,_,hr,h,hlt=>by
   obtain⟨v,vs1,d,ds1,a,b,rfl,rfl,rfl,h1,h2⟩:=trodAll_cons h
   simp only [List.all_cons,Bool.and_eq_true,decide_eq_true_eq]at hr
   exact⟨a,b,Below.trod hl hr.1.1 hr.1.2 h1 hb (fun x hx=>hlt x (by simp [hx])),K2 hl hb hr.2 h2 (fun x hx=>hlt x (by simp [hx])),rfl⟩
theorem CC.law {P:Program} {I:World→Prop} {f:FuncId} {xs:List V} (h:CC P I f xs (· = .c (.bool true))) {W:World} (hI:I W) {args:Array Value} (ha:Ap W (im fun _=>False) xs args.toList):
 Calls P f args W fun e W'=>e= .returned (.bool true)∧Below W.heap.size W W':=by
 refine(h.run W args (fun _=>False) hI (fun _ h=>h.elim) ha).mono fun e W' ⟨v,r,he,hr,_,hv,hb⟩=>⟨?_,hb⟩
 subst hr
 simp only [Ab,Ad]at hv
 rw [he,hv]
end Go.PL
namespace Go.PL
open Go Go.RowKit Go.ChangeShapes Go.WideShapes
def YQ (R:TypeId→List C→Prop):List TypeId→List (List C)→Prop
 | [],EX=>EX=[]
 | t::ts,EX=> ∃ ds r,EX=ds::r∧R t ds∧YQ R ts r
def Hd (P:Program):Nat→TypeId→List C→Prop
 | 0,_,_=>False
 | n+1,t,cs=>match P.underlying t with
   | some .bool => ∃ b,cs=[.bool b]
   | some (.int k)=> ∃ z,cs=[.int k z]∧(Lit.int k z).wf =true
   | some .string => ∃ s:List UInt8,cs=[.str s]∧s.length≤reachBytes
   | some (.slice e)=> ∃ EX:List (List C),cs=[.sl EX.length EX.flatten]∧EX.length*P.bytesOf e≤reachBytes∧ ∀ ds∈EX,Hd P n e ds
   | some (.struct fs)=> ∃ EX:List (List C),cs=EX.flatten∧YQ (Hd P n) (fs.toList.map (·.type)) EX
   | some (.array m e)=> ∃ EX:List (List C),cs=EX.flatten∧EX.length=m∧ ∀ ds∈EX,Hd P n e ds
   | some (.pointer e)=>cs=[.nilp]∨ ∃ ds,cs=[.iptr ds 0]∧Hd P n e ds
   | some (.interface _)=>cs=[.niface]∨cs=[.held]
   | _=>False
theorem FN: ∀ {EX:List (List C)},(∀ ds∈EX,Ao ds=true)→Ao EX.flatten=true
 | [],_=>rfl
 | ds::EX,h=>by rw [List.flatten_cons,Bk,h ds (by simp),FN (fun d hd=>h d (by simp [hd]))];rfl
theorem Um {R:TypeId→List C→Prop} (hR: ∀ t ds,R t ds→Ao ds=true): ∀ {ts:List TypeId} {EX:List (List C)},YQ R ts EX→ ∀ ds∈EX,Ao ds=true
 | [],EX,h,ds,hd=>by simp only [YQ]at h;subst h;simp at hd
 | t::ts,EX,h,ds,hd=>by
   simp only [YQ]at h
   obtain⟨d,r,rfl,h1,h2⟩:=h
   rcases List.mem_cons.1 hd with rfl | hd
   ·exact hR t _ h1
   ·exact Um hR h2 ds hd
theorem I7 {P:Program}: ∀ {n:Nat} {t:TypeId} {cs:List C},Hd P n t cs→Ao cs=true
 | 0,_,_,h=>h.elim
 | n+1,t,cs,h=>by
   unfold Hd at h
   split at h
   ·obtain⟨b,rfl⟩:=h;rfl
   ·obtain⟨z,rfl,_⟩:=h;rfl
   ·obtain⟨s,rfl,_⟩:=h;rfl
   ·obtain⟨EX,rfl,_⟩:=h;rfl
   ·obtain⟨EX,rfl,h2⟩:=h;exact FN (Um (fun t ds h=>I7 h) h2)
   ·obtain⟨EX,rfl,_,h2⟩:=h;exact FN (fun ds hd=>I7 (h2 ds hd))
   ·rcases h with rfl | ⟨ds,rfl,_⟩<;>rfl
   ·rcases h with rfl | rfl<;>rfl
   ·exact h.elim
section
variable {H:Type} {enc:TypeId×Value→H} {P:Program} {w:World} {spare:Nat→Bool}
theorem QC {G:Ay}: ∀ {a b:List C} {u v:List Value},Ai w G a u→Ai w G b v→Ai w G (a++b) (u++v)
 | [],_,[],_,_,h=>h
 | _::_,_,_::_,_,h,h'=>by simp only [Ai]at h;simp only [List.cons_append,Ai];exact⟨h.1,QC h.2 h'⟩
 | [],_,_::_,_,h,_=>by simp [Ai]at h
 | _::_,_,[],_,h,_=>by simp [Ai]at h
theorem WZ {G:Ay}: ∀ {a:List C} {u:List Value},Ai w G a u→a.length=u.length
 | [],[],_=>rfl
 | _::_,_::_,h=>by simp only [Ai]at h;simp [WZ h.2]
 | [],_::_,h=>by simp [Ai]at h
 | _::_,[],h=>by simp [Ai]at h
theorem Nl {G:Ay} {b:Nat}: ∀ {cs:List C} {ds:List Value} {o:Nat},Ai w G cs ds→(∀ j,j<ds.length→w.cell? ⟨b,o+j,none⟩=ds[j]?)→Ak w G cs b o
 | [],_,_,_,_=>by simp [Ak]
 | c::cs,d::ds,o,h,hc=>by
   simp only [Ai]at h
   simp only [Ak]
   refine⟨⟨d,by simpa using hc 0 (by simp),h.1⟩,Nl h.2 (fun j hj=>?_)⟩
   have:=hc (j+1) (by simp;omega)
   simpa [Nat.add_assoc,Nat.add_comm 1 j] using this
 | _::_,[],_,h,_=>by simp [Ai]at h
theorem QD {G:Ay} {b:Nat}: ∀ {cs cs':List C} {o:Nat},Ak w G cs b o→Ak w G cs' b (o+cs.length)→Ak w G (cs++cs') b o
 | [],_,_,_,h=>by simpa using h
 | c::cs,cs',o,h,h'=>by
   simp only [Ak]at h
   simp only [List.cons_append,Ak]
   exact⟨h.1,QD h.2 (by simpa [Nat.add_assoc,Nat.add_comm 1] using h')⟩
theorem W0 {a:Addr} {n:Nat} {cs:List Value} (hn:0<n) (h:w.cells? 0 a n=some cs):a=⟨a.block,a.off,none⟩∧a.block<w.heap.size∧cs.length=n∧ ∀ j,j<n→w.cell? ⟨a.block,a.off+j,none⟩=cs[j]? :=by
 obtain⟨_,hl,hc⟩:=World.cells?_some h
 have h0:=hc 0 hn
 obtain⟨b,o,sp⟩:=a
 have hsp:sp=none:=by
  cases sp with
  | none=>rfl
  | some x=>
    have e:cs[0]? =some cs[0]:=by rw [List.getElem?_eq_getElem]
    rw [e]at h0
    simp only [Addr.add,if_true]at h0
    unfold World.cell? at h0
    split at h0<;>simp at h0
 subst hsp
 refine⟨rfl,World.cells?_block h hn,hl,fun j hj=>?_⟩
 have:=hc j hj
 simp only [Addr.add]at this
 split at this
 ·rename_i hj0;subst hj0;exact this
 ·exact this
def gg (P:Program):Nat→List Field→Bool
 | _,[]=>true
 | o,f::fs=>f.offset==o&&gg P (o+P.cellsOf f.type) fs
def gn (P:Program):Nat→TypeId→Bool
 | 0,_=>false
 | n+1,t=>match P.underlying t with
   | some .bool =>P.cellsOf t==1
   | some (.int _)=>P.cellsOf t==1
   | some .string =>P.cellsOf t==1
   | some (.slice e)=>P.cellsOf t==1&&decide (0<P.cellsOf e)&&gn P n e
   | some (.struct fs)=>gg P 0 fs.toList&&P.cellsOf t==(fs.toList.map fun f=>P.cellsOf f.type).sum &&fs.toList.all (fun f=>gn P n f.type)
   | some (.array m e)=>P.cellsOf t==m*P.cellsOf e&&gn P n e
   | some (.pointer e)=>P.cellsOf t==1&&decide (0<P.cellsOf e)&&gn P n e
   | some (.interface _)=>P.cellsOf t==1
   | _=>false
variable {G:Ay} (hG: ∀ b,b<w.heap.size→ ¬G.wr b)
def aj (enc:TypeId×Value→H) (P:Program) (w:World) (spare:Nat→Bool) (G:Ay) (n:Nat) (t:TypeId):Prop:=
 ∀ (fuel:Nat) (vs:List Value) (x:DataW H×List MemPlace),DataW.trod enc P w 0 spare true fuel t vs=some x→(x.1.weights P t).all (· ≤reachBytes)=true→ ∃ cs,Ai w G cs vs∧Hd P n t cs∧vs.length=P.cellsOf t
theorem Oy {n:Nat}: ∀ {fs:List Field} {o m:Nat} {vs:List Value} {xs:List (DataW H×List MemPlace)},gg P o fs=true→vs.length=o+(fs.map fun f=>P.cellsOf f.type).sum →xs.length=fs.length→
 (∀ f∈fs,aj enc P w spare G n f.type)→
 (∀ (i:Nat) (f:Field),fs[i]? =some f→DataW.trod enc P w 0 spare true m f.type ((vs.drop f.offset).take (P.cellsOf f.type))=xs[i]?)→
 (DataW.weightsEach P (fs.map (·.type)) (xs.map (·.1))).all (· ≤reachBytes)=true→ ∃ EX:List (List C),Ai w G EX.flatten (vs.drop o)∧YQ (Hd P n) (fs.map (·.type)) EX
 | [],o,m,vs,xs,_,hl,_,_,_,_=>by
   refine⟨[],?_,rfl⟩
   have:vs.drop o=[]:=by simp at hl;simp;omega
   rw [this];simp [Ai]
 | f::fs,o,m,vs,xs,ht,hl,hx,hr,hf,hw=>by
   simp only [gg,Bool.and_eq_true,beq_iff_eq]at ht
   obtain⟨h1,h2⟩:=ht
   cases xs with
   | nil=>simp at hx
   | cons x xs=>
     simp only [List.map_cons,List.sum_cons]at hl
     simp only [List.map_cons,DataW.weightsEach,List.all_append,Bool.and_eq_true]at hw
     have h0:=hf 0 f rfl
     simp only [List.getElem?_cons_zero]at h0
     obtain⟨cs,q1,q2,q3⟩:=hr f (by simp) m _ x h0 hw.1
     obtain⟨EX,k1,k2⟩:=Oy (o:=o+P.cellsOf f.type) (m:=m) (vs:=vs) (xs:=xs) h2 (by omega) (by simpa using hx) (fun g hg=>hr g (by simp [hg]))
      (fun i g hg=>by have:=hf (i+1) g (by simpa using hg);simpa using this) hw.2
     refine⟨cs::EX,?_,cs,EX,rfl,q2,k2⟩
     have e:vs.drop o=(vs.drop o).take (P.cellsOf f.type)++vs.drop (o+P.cellsOf f.type):=by rw [←List.drop_drop,List.take_append_drop]
     rw [e,List.flatten_cons]
     rw [h1]at q1
     exact QC q1 k1
theorem QE {n e:Nat} (hr:aj enc P w spare G n e): ∀ (k o m:Nat) (vs:List Value) (xs:List (DataW H×List MemPlace)),vs.length=o+k*P.cellsOf e→xs.length=k→
 (∀ i,i<k→DataW.trod enc P w 0 spare true m e ((vs.drop (o+i*P.cellsOf e)).take (P.cellsOf e))=xs[i]?)→
 (DataW.weightsAll P e (xs.map (·.1))).all (· ≤reachBytes)=true→ ∃ EX:List (List C),Ai w G EX.flatten (vs.drop o)∧EX.length=k∧ ∀ ds∈EX,Hd P n e ds
 | 0,o,m,vs,xs,hl,_,_,_=>by
   refine⟨[],?_,rfl,by simp⟩
   have:vs.drop o=[]:=by simp;omega
   rw [this];simp [Ai]
 | k+1,o,m,vs,xs,hl,hx,hf,hw=>by
   cases xs with
   | nil=>simp at hx
   | cons x xs=>
     simp only [List.map_cons,DataW.weightsAll,List.all_append,Bool.and_eq_true]at hw
     have h0:=hf 0 (by omega)
     simp only [Nat.zero_mul,Nat.add_zero,List.getElem?_cons_zero]at h0
     obtain⟨cs,q1,q2,q3⟩:=hr m _ x h0 hw.1
     obtain⟨EX,k1,k2,k3⟩:=QE hr k (o+P.cellsOf e) m vs xs (by rw [hl,Nat.add_mul];omega) (by simpa using hx)
      (fun i hi=>by
       have:=hf (i+1) (by omega)
       simp only [List.getElem?_cons_succ]at this
       rw [←this]
       congr 3
       rw [Nat.add_mul];omega) hw.2
     refine⟨cs::EX,?_,by simp [k2],?_⟩
     ·have e':vs.drop o=(vs.drop o).take (P.cellsOf e)++vs.drop (o+P.cellsOf e):=by rw [←List.drop_drop,List.take_append_drop]
      rw [e',List.flatten_cons]
      exact QC q1 k1
     ·intro ds hds
      rcases List.mem_cons.1 hds with rfl | hd
      ·exact q2
      ·exact k3 ds hd
theorem QF {n e:Nat} (hpos:0<P.cellsOf e) (hr:aj enc P w spare G n e): ∀ (k o m:Nat) (a:Addr) (xs:List (DataW H×List MemPlace)),xs.length=k→
 (∀ i,i<k→(w.cells? 0 (a.add (o+i*P.cellsOf e)) (P.cellsOf e)).bind (DataW.trod enc P w 0 spare true m e)=xs[i]?)→
 (DataW.weightsAll P e (xs.map (·.1))).all (· ≤reachBytes)=true→
 ∃ EX:List (List C),EX.length=k∧(∀ ds∈EX,Hd P n e ds)∧(0<k→a.block<w.heap.size∧(o=0→a=⟨a.block,a.off,none⟩)∧Ak w G EX.flatten a.block (a.off+o))
 | 0,o,m,a,xs,_,_,_=>⟨[],rfl,by simp,fun h=>by omega⟩
 | k+1,o,m,a,xs,hx,hf,hw=>by
   cases xs with
   | nil=>simp at hx
   | cons x xs=>
     simp only [List.map_cons,DataW.weightsAll,List.all_append,Bool.and_eq_true]at hw
     have h0:=hf 0 (by omega)
     simp only [Nat.zero_mul,Nat.add_zero,List.getElem?_cons_zero,Option.bind_eq_some_iff]at h0
     obtain⟨vs,hvs,htr⟩:=h0
     obtain⟨cs,q1,q2,q3⟩:=hr m _ x htr hw.1
     obtain⟨c1,c2,c3,c4⟩:=W0 hpos hvs
     obtain⟨EX,k2,k3,k4⟩:=QF hpos hr k (o+P.cellsOf e) m a xs (by simpa using hx)
      (fun i hi=>by
       have:=hf (i+1) (by omega)
       simp only [List.getElem?_cons_succ]at this
       rw [←this]
       congr 3
       rw [Nat.add_mul];omega) hw.2
     have hblk:(a.add o).block =a.block:=by unfold Addr.add;split<;>rfl
     have hoff:(a.add o).off =a.off+o:=by
      unfold Addr.add
      split
      ·rename_i q;rw [q];rfl
      ·rfl
     refine⟨cs::EX,by simp [k2],?_,fun _=>⟨by rw [←hblk];exact c2,fun ho=>?_,?_⟩⟩
     ·intro ds hds
      rcases List.mem_cons.1 hds with rfl | hd
      ·exact q2
      ·exact k3 ds hd
     ·subst ho
      have e:a.add 0=a:=rfl
      rw [e]at c1
      exact c1
     ·rw [List.flatten_cons]
      rw [hblk,hoff]at c4
      have hlen:cs.length=P.cellsOf e:=(WZ q1).trans q3
      refine QD (Nl q1 (fun j hj=>c4 j (by omega))) ?_
      by_cases hk:0<k
      ·have:=(k4 hk).2.2
       rw [hlen]
       simpa [Nat.add_assoc] using this
      ·have:EX=[]:=List.length_eq_zero_iff.1 (by omega)
       subst this
       simp [Ak]
theorem QG {c:C} {v:Value} (h:Ad w G c v):Ai w G [c] [v]:=by simp only [Ai];exact⟨h,trivial⟩
theorem ak {len:Nat} {cs:List C} {v:Value} (hp:Ao cs=true) (h: ∃ a cap,v= .slice a len cap∧len≤cap∧cap≤maxLen∧(len=0→cs=[])∧
 (len=0∨ ∃ b off,a=some ⟨b,off,none⟩∧ ¬G.wr b∧b<w.heap.size∧Ak w G cs b off)):Ad w G (.sl len cs) v:=by unfold Ad;exact⟨hp,h⟩
theorem bO {cs:List C} {off:Nat} {v:Value} (hp:Ao cs=true) (h: ∃ b o,v= .pointer (some ⟨b,o+off,none⟩)∧ ¬G.wr b∧b<w.heap.size∧Ak w G cs b o):Ad w G (.iptr cs off) v:=by unfold Ad;exact⟨hp,h⟩
include hG in
theorem JX: ∀ (n:Nat) (t:TypeId),gn P n t=true→aj enc P w spare G n t
 | 0,t,h=>by simp [gn]at h
 | n+1,t,h=>by
   intro fuel vs x hx hw
   unfold gn at h
   unfold Hd
   split at h
   ·rename_i ht
    obtain⟨b,rfl,rfl⟩:=DataW.trod_bool ht hx
    exact⟨[.bool b],by simp [Ai,Ad],by exact⟨b,rfl⟩,by rw [beq_iff_eq.1 h];rfl⟩
   ·rename_i k ht
    obtain⟨z,rfl,rfl,hwf⟩:=DataW.trod_int ht hx
    exact⟨[.int k z],by simp [Ai,Ad],by exact⟨z,rfl,hwf⟩,by rw [beq_iff_eq.1 h];rfl⟩
   ·rename_i ht
    obtain⟨s,rfl,rfl,hs⟩:=DataW.trod_string ht hx
    simp only [DataW.weights,List.all_cons,List.all_nil,Bool.and_true,decide_eq_true_eq]at hw
    exact⟨[.str s.data.toList],by simp [Ai,Ad],by exact⟨_,rfl,hw⟩,by rw [beq_iff_eq.1 h];rfl⟩
   ·rename_i e ht
    simp only [Bool.and_eq_true,decide_eq_true_eq,beq_iff_eq]at h
    rcases DataW.trod_slice ht hx with ⟨rfl,rfl⟩ | ⟨a,len,cap,elems,rest,m,rfl,rfl,rfl,_,hle,hmax,hlen,hel,_,_⟩
    ·refine⟨[.sl 0 []],?_,?_,by rw [h.1.1];rfl⟩
     ·exact QG (ak rfl ⟨none,0,rfl,Nat.le_refl _,Nat.zero_le _,fun _=>rfl, .inl rfl⟩)
     ·exact⟨[],rfl,by simp,by simp⟩
    ·simp only [DataW.weights,ht,List.all_cons,List.all_append,Bool.and_eq_true,decide_eq_true_eq,List.length_map]at hw
     obtain⟨EX,k2,k3,k4⟩:=QF h.1.2 (JX n e h.2) len 0 m a elems hlen (fun i hi=>by rw [Nat.zero_add];exact hel i hi) hw.2.1
     refine⟨[.sl EX.length EX.flatten],?_,?_,by rw [h.1.1];rfl⟩
     ·refine QG (ak (FN (fun ds hd=>I7 (k3 ds hd))) ⟨some a,cap,by rw [k2],by omega,hmax,fun h0=>by rw [List.length_eq_zero_iff.1 h0];rfl,?_⟩)
      rw [k2]
      by_cases hk:0<len
      ·obtain⟨q1,q2,q3⟩:=k4 hk
       exact .inr ⟨a.block,a.off,by rw [←q2 rfl],hG _ q1,q1,q3⟩
      ·exact .inl (by omega)
     ·refine⟨EX,rfl,?_,k3⟩
      refine Nat.le_trans (Nat.mul_le_mul_right _ ?_) hw.1
      omega
   ·rename_i fs ht
    simp only [Bool.and_eq_true,beq_iff_eq,List.all_eq_true]at h
    obtain⟨⟨h1,h2⟩,h3⟩:=h
    obtain⟨xs,m,rfl,rfl,hl,hx2,hf⟩:=DataW.trod_struct ht hx
    simp only [DataW.weights,ht]at hw
    obtain⟨EX,k1,k2⟩:=Oy (fs:=fs.toList) (o:=0) (m:=m) (vs:=vs) (xs:=xs) (enc:=enc) (spare:=spare) (n:=n) h1 (by rw [hl,h2];simp) (by simpa using hx2) (fun f hf=>JX n f.type (h3 f hf))
     (fun i f hi=>hf i f (by simpa using hi)) hw
    exact⟨EX.flatten,by simpa using k1,by exact⟨EX,rfl,k2⟩,hl⟩
   ·rename_i m e ht
    simp only [Bool.and_eq_true,beq_iff_eq]at h
    obtain⟨xs,q,rfl,rfl,hl,hx2,hf⟩:=DataW.trod_array ht hx
    simp only [DataW.weights,ht]at hw
    obtain⟨EX,k1,k2,k3⟩:=QE (JX n e h.2) m 0 q vs xs (by rw [hl,h.1];simp) hx2 (fun i hi=>by rw [Nat.zero_add];exact hf i hi) hw
    exact⟨EX.flatten,by simpa using k1,by exact⟨EX,rfl,k2,k3⟩,hl⟩
   ·rename_i e ht
    simp only [Bool.and_eq_true,decide_eq_true_eq,beq_iff_eq]at h
    rcases DataW.trod_pointer ht hx with ⟨rfl,rfl⟩ | ⟨a,cs',y,m,rfl,rfl,rfl,hc,hy⟩
    ·exact⟨[.nilp],by simp [Ai,Ad],by exact .inl rfl,by rw [h.1.1];rfl⟩
    ·simp only [DataW.weights,ht]at hw
     obtain⟨ds,q1,q2,q3⟩:=JX n e h.2 m cs' y hy hw
     obtain⟨c1,c2,c3,c4⟩:=W0 h.1.2 hc
     refine⟨[.iptr ds 0],?_,by exact .inr ⟨ds,rfl,q2⟩,by rw [h.1.1];rfl⟩
     exact QG (bO (I7 q2) ⟨a.block,a.off,by rw [Nat.add_zero, ←c1],hG _ c2,c2,Nl q1 (fun j hj=>c4 j (by omega))⟩)
   ·rename_i ms ht
    cases fuel with
    | zero=>simp [DataW.trod]at hx
    | succ fuel=>
      unfold DataW.trod at hx
      rw [ht]at hx
      split at hx<;>simp_all
      ·exact⟨[.niface],by simp [Ai,Ad], .inl rfl⟩
      ·exact⟨[.held],by simp [Ai,Ad], .inr rfl⟩
   ·cases h
end
end Go.PL
namespace Go.PL
open Go Go.RowKit
section
variable {P:Program} {t e:TypeId} {n:Nat} {cs:List C}
theorem bP {k:IntKind} (hu:P.underlying t=some (.int k)) (h:Hd P n t cs): ∃ z,cs=[.int k z]∧(Lit.int k z).wf =true:=by
 cases n with
 | zero=>exact h.elim
 | succ n=>simpa only [Hd,hu] using h
theorem W2 {α:Type} (f:α→C): ∀ l:List α,l.flatMap (fun x=>[f x])=l.map f
 | []=>rfl
 | a::l=>by rw [List.flatMap_cons,W2 f l];rfl
theorem Un {α:Type} {enc:α→List C} {n:Nat} (hn: ∀ x,(enc x).length =n) (l:List α) {i:Nat} (d:α) (hi:i<l.length) (j m:Nat) (hj:j+m≤n):
 ((l.flatMap enc).drop (i*n+j)).take m=((enc (l.getD i d)).drop j).take m:=by
 induction l generalizing i with
 | nil=>simp at hi
 | cons a l ih=>
   cases i with
   | zero=>
     simp only [List.flatMap_cons,Nat.zero_mul,Nat.zero_add,List.getD_cons_zero]
     rw [List.drop_append_of_le_length (by rw [hn];omega),List.take_append_of_le_length (by rw [List.length_drop,hn];omega)]
   | succ i=>
     have:=ih (i:=i) (by simpa using hi)
     rw [List.getD_cons_succ, ←this,List.flatMap_cons]
     have e:(i+1)*n+j=(enc a).length +(i*n+j):=by rw [hn,Nat.add_mul];omega
     rw [e,List.drop_append,List.drop_of_length_le (by omega)]
     simp
theorem dy {α:Type} {enc:α→List C} {n:Nat} (hn: ∀ x,(enc x).length =n) (l:List α) {i:Nat} (d:α) (hi:i<l.length) (j:Nat) (hj:j<n):
 (l.flatMap enc).getD (i*n+j) C.any=(enc (l.getD i d)).getD j C.any:=by
 have h:=Un hn l d hi j 1 (by omega)
 have e: ∀ (m:List C) (k:Nat),m.getD k C.any=((m.drop k).take 1).getD 0 C.any:=by
  intro m k
  simp [List.getD_eq_getElem?_getD,List.getElem?_take,List.getElem?_drop]
 rw [e,h, ←e]
theorem Bo {α:Type} {enc:α→List C} {n:Nat} (hn: ∀ x,(enc x).length =n): ∀ l:List α,(l.flatMap enc).length =l.length*n
 | []=>by simp
 | a::l=>by rw [List.flatMap_cons,List.length_append,hn,Bo hn l,List.length_cons,Nat.add_mul];omega
end
end Go.PL
namespace Go.PL
open Go Go.RowKit
def AH:List Prop→Prop
 | []=>True
 | p::ps=>p∧AH ps
theorem Aj: ∀ {a b:List Prop},AH (a++b)↔AH a∧AH b
 | [],b=>by simp [AH]
 | p::a,b=>by simp only [List.cons_append,AH,Aj (a:=a) (b:=b),and_assoc]
abbrev CV:=Option (List Prop×V)
def P1 {α:Type} (b:Bool) (r:α):Option α:=match b with
 | true=>some r
 | false=>none
theorem Bu {α:Type} {b:Bool} {r x:α} (h:P1 b r=some x):b=true∧r=x:=by
 cases b<;>simp [P1]at h;exact⟨rfl,h⟩
def AI (st:St) (g:Bool) (x:Operand):List Prop×V:=
 match st.ev x with
 | .g c v=>([g=true→c=true],v)
 | v=>([],v)
theorem Kx {st:St} {g:Bool} {x:Operand} (hl:AH (AI st g x).1):(st.arg g x).1∧(st.arg g x).2=(AI st g x).2:=by
 unfold AI at *
 unfold St.arg
 generalize st.ev x=e at *
 cases e with
 | g c v=>exact⟨hl.1,rfl⟩
 | c _=>exact⟨trivial,rfl⟩
 | agg _=>exact⟨trivial,rfl⟩
 | tup _=>exact⟨trivial,rfl⟩
 | undef=>exact⟨trivial,rfl⟩
def FY (st:St) (g:Bool):List Operand→List Prop×List V
 | []=>([],[])
 | x::xs=>((AI st g x).1++(FY st g xs).1,(AI st g x).2::(FY st g xs).2)
theorem Mn {st:St} {g:Bool}: ∀ {xs:List Operand},AH (FY st g xs).1→(st.args g xs).1∧(st.args g xs).2=(FY st g xs).2
 | [],_=>⟨trivial,rfl⟩
 | x::xs,hl=>by
   obtain⟨h1,h2⟩:=Aj.1 hl
   have a:=Kx (st:=st) (g:=g) (x:=x) h1
   have b:=Mn (st:=st) (g:=g) (xs:=xs) h2
   simp only [St.args,FY]
   exact⟨⟨a.1,b.1⟩,by rw [a.2,b.2]⟩
def Vz:V→Option (Option Bool×Bool)
 | .c (.bool q)=>some (none,q)
 | .g c (.c (.bool q))=>some (some c,q)
 | _=>none
def dz (p:Prop):Option Bool→List Prop
 | none=>[]
 | some c=>[p→c=true]
theorem Oz {v:V} {c:Option Bool} {q:Bool} (h:Vz v=some (c,q)):Ll v=some (c.getD true,q):=by
 unfold Vz at h
 split at h<;>simp at h
 ·obtain⟨rfl,rfl⟩:=h;rfl
 ·obtain⟨rfl,rfl⟩:=h;rfl
theorem QH {p:Prop} {c:Option Bool} (h:AH (dz p c)):p→c.getD true=true:=by
 cases c with
 | none=>intro _;rfl
 | some c=>exact h.1
def jk (l:List Prop) (p:Bool) (a b:V):CV:=
 match Vz a,Vz b with
 | some (ca,q),some (cb,r)=>some (l++(dz (p=true) ca++dz (p=false) cb), .c (.bool (if p then q else r)))
 | _,_=>none
def al (P:Program) (t:TypeId) (st:St) (l:List Prop):V→CV
 | .c (.ptr id off)=>match Ir P t,st.lookR id with
   | some (ag,n),some e=>P1 (Nat.ble (off+n) e.cs.length&&(ag||Nat.blt 0 n)) (l,toV ag off n e.cs)
   | _,_=>none
 | .c (.iptr cs off)=>match Ir P t with
   | some (ag,n)=>P1 (Nat.ble (off+n) cs.length&&(ag||Nat.blt 0 n)) (l,toV ag off n cs)
   | _=>none
 | _=>none
theorem OA {P:Program} {t:TypeId} {st:St} {l l':List Prop} {x v:V} (h:al P t st l x=some (l',v)):l=l'∧(C9 P t st x).1∧(C9 P t st x).2=v:=by
 unfold al at h
 unfold C9
 split at h
 ·split at h
  ·rename_i ag n e h1 h2
   obtain⟨hb,hr⟩:=Bu h
   simp only [Prod.mk.injEq]at hr
   simp only [Bool.and_eq_true,Nat.ble_eq,Bool.or_eq_true,Nat.blt_eq]at hb
   simp only [h1,h2]
   exact⟨hr.1,hb,hr.2⟩
  ·cases h
 ·split at h
  ·rename_i ag n h1
   obtain⟨hb,hr⟩:=Bu h
   simp only [Prod.mk.injEq]at hr
   simp only [Bool.and_eq_true,Nat.ble_eq,Bool.or_eq_true,Nat.blt_eq]at hb
   simp only [h1]
   exact⟨hr.1,hb,hr.2⟩
  ·cases h
 ·cases h
def dA (P:Program) (t:TypeId) (st:St) (l:List Prop) (u:V):V→CV
 | .c (.ptr id off)=>match Ir P t,st.lookR id with
   | some (ag,n),some e=>P1 (ag||Nat.blt 0 n) (l++[off+n≤e.cs.length∧toV ag off n e.cs=u],u)
   | _,_=>none
 | .c (.iptr cs off)=>match Ir P t with
   | some (ag,n)=>P1 (ag||Nat.blt 0 n) (l++[off+n≤cs.length∧toV ag off n cs=u],u)
   | _=>none
 | _=>none
theorem W3 {P:Program} {t:TypeId} {st:St} {l l':List Prop} {x u v:V} (h:dA P t st l u x=some (l',v)) (hl:AH l'):AH l∧(C9 P t st x).1∧(C9 P t st x).2=v:=by
 unfold dA at h
 unfold C9
 split at h
 ·split at h
  ·rename_i ag n e h1 h2
   obtain⟨hb,hr⟩:=Bu h
   simp only [Prod.mk.injEq]at hr
   obtain⟨rfl,rfl⟩:=hr
   obtain⟨q1,q2,_⟩:=Aj.1 hl
   simp only [Bool.or_eq_true,Nat.blt_eq]at hb
   simp only [h1,h2]
   exact⟨q1,⟨q2.1,hb⟩,q2.2⟩
  ·cases h
 ·split at h
  ·rename_i ag n h1
   obtain⟨hb,hr⟩:=Bu h
   simp only [Prod.mk.injEq]at hr
   obtain⟨rfl,rfl⟩:=hr
   obtain⟨q1,q2,_⟩:=Aj.1 hl
   simp only [Bool.or_eq_true,Nat.blt_eq]at hb
   simp only [h1]
   exact⟨q1,⟨q2.1,hb⟩,q2.2⟩
  ·cases h
 ·cases h
def mX:BinOp→IntKind→IntKind→Bool
 | .shl,_,_ | .shr,_,_=>true
 | _,k,k'=>k==k'
theorem W4 {op:BinOp} {k k':IntKind} (h:mX op k k'=true):Iu op k k':=by
 unfold mX at h
 unfold Iu
 cases op<;>simp_all
def jW (op:BinOp) (b:Int):List Prop:=
 match op with
 | .quo | .rem =>[b ≠ 0]
 | .shl | .shr =>[0≤b]
 | _=>[]
theorem bR {op:BinOp} {k:IntKind} {a b:Int} (h:AH (jW op b)):(HL op k a b).1:=by
 cases op<;>simp_all [jW,HL,AH]
def jX (op:BinOp) (a b:List UInt8):Option (List Prop):=
 match op with
 | .add =>some [a.length+b.length≤maxLen]
 | .eql | .neq | .lss | .leq | .gtr | .geq =>some []
 | _=>none
theorem bT {op:BinOp} {a b:List UInt8} {l:List Prop} (h:jX op a b=some l) (hl:AH l):(Is op a b).1:=by
 cases op<;>simp_all [jX,Is]<;>(subst h;exact hl.1)
def jY (P:Program) (op:BinOp) (t:TypeId) (kc:Bool) (l:List Prop):V→V→CV
 | .c (.int k a), .c (.int k' b)=>P1 (mX op k k') (l++jW op b, .c (HL op k a b).2)
 | .c (.str a), .c (.str b)=>match jX op a b with
   | some c=>some (l++c, .c (Is op a b).2)
   | none=>none
 | .agg cs, .agg ds=>match op with
   | .eql =>P1 (YJ P t cs ds) (l, .c (.bool (B1 cs ds)))
   | .neq =>P1 (YJ P t cs ds) (l, .c (.bool !(B1 cs ds)))
   | _=>none
 | x,y=>some (l++[(Pk P op t kc x y).1],(Pk P op t kc x y).2)
def I8 (P:Program) (op:BinOp) (t:TypeId) (k:Bool) (x y:V):Prop×V:=
 match x,y with
 | .agg cs, .agg ds=>WV P op t cs ds
 | x,y=>Pk P op t k x y
theorem YR {P:Program} {op:BinOp} {t:TypeId} {kc:Bool} {l l':List Prop} {x y v:V} (h:jY P op t kc l x y=some (l',v)) (hl:AH l'):AH l∧(I8 P op t kc x y).1∧(I8 P op t kc x y).2=v:=by
 unfold jY at h
 split at h
 ·obtain⟨hb,hr⟩:=Bu h
  simp only [Prod.mk.injEq]at hr
  obtain⟨rfl,rfl⟩:=hr
  obtain⟨q1,q2⟩:=Aj.1 hl
  exact⟨q1,⟨W4 hb,bR q2⟩,rfl⟩
 ·split at h
  ·rename_i c hc
   simp only [Option.some.injEq,Prod.mk.injEq]at h
   obtain⟨rfl,rfl⟩:=h
   obtain⟨q1,q2⟩:=Aj.1 hl
   exact⟨q1,bT hc q2,rfl⟩
  ·cases h
 ·split at h
  ·obtain⟨hb,hr⟩:=Bu h
   simp only [Prod.mk.injEq]at hr
   exact⟨hr.1▸hl,hb,hr.2⟩
  ·obtain⟨hb,hr⟩:=Bu h
   simp only [Prod.mk.injEq]at hr
   exact⟨hr.1▸hl,hb,hr.2⟩
  ·cases h
 ·rename_i hne
  simp only [Option.some.injEq,Prod.mk.injEq]at h
  obtain⟨rfl,rfl⟩:=h
  obtain⟨q1,q2⟩:=Aj.1 hl
  have e:I8 P op t kc x y=Pk P op t kc x y:=by
   unfold I8
   split<;>first | rfl | simp_all
  rw [e]
  exact⟨q1,q2.1,rfl⟩
def jZ (P:Program) (t:TypeId) (st:St) (l:List Prop) (x y:V):CV:=
 match y with
 | .c (.int _ i)=>match x with
   | .c (.sl len cs)=>match CZ P t with
     | some (_,n)=>some (l++[0≤i∧i<len], .c (.iptr cs (i.toNat*n)))
     | none=>none
   | .c (.osl id)=>match CZ P t,st.lookR id with
     | some (_,n),some e=>match e.row with
       | some (_,_,len)=>some (l++[0≤i∧i<len], .c (.ptr id (i.toNat*n)))
       | none=>none
     | _,_=>none
   | .c (.bsl id off len)=>match CZ P t with
     | some (_,n)=>some (l++[0≤i∧i<len], .c (.ptr id (off+i.toNat*n)))
     | none=>none
   | .c (.ptr id off)=>match FV P t with
     | some (k,_,n)=>some (l++[0≤i∧i<k], .c (.ptr id (off+i.toNat*n)))
     | none=>none
   | .c (.iptr cs off)=>match FV P t with
     | some (k,_,n)=>some (l++[0≤i∧i<k], .c (.iptr cs (off+i.toNat*n)))
     | none=>none
   | _=>none
 | _=>none
theorem YS {P:Program} {t:TypeId} {st:St} {l l':List Prop} {x y v:V} (h:jZ P t st l x y=some (l',v)) (hl:AH l'):AH l∧(BY P t st x y).1∧(BY P t st x y).2=v:=by
 unfold jZ at h
 unfold BY
 split at h
 ·split at h
  ·split at h
   ·rename_i h1
    simp only [Option.some.injEq,Prod.mk.injEq]at h
    obtain⟨rfl,rfl⟩:=h
    obtain⟨q1,q2,_⟩:=Aj.1 hl
    simp only [h1];exact⟨q1,q2,trivial⟩
   ·cases h
  ·split at h
   ·rename_i h1 h2
    split at h
    ·rename_i h3
     simp only [Option.some.injEq,Prod.mk.injEq]at h
     obtain⟨rfl,rfl⟩:=h
     obtain⟨q1,q2,_⟩:=Aj.1 hl
     simp only [h1,h2,h3];exact⟨q1,q2,trivial⟩
    ·cases h
   ·cases h
  ·split at h
   ·rename_i h1
    simp only [Option.some.injEq,Prod.mk.injEq]at h
    obtain⟨rfl,rfl⟩:=h
    obtain⟨q1,q2,_⟩:=Aj.1 hl
    simp only [h1];exact⟨q1,q2,trivial⟩
   ·cases h
  ·split at h
   ·rename_i h1
    simp only [Option.some.injEq,Prod.mk.injEq]at h
    obtain⟨rfl,rfl⟩:=h
    obtain⟨q1,q2,_⟩:=Aj.1 hl
    simp only [h1];exact⟨q1,q2,trivial⟩
   ·cases h
  ·split at h
   ·rename_i h1
    simp only [Option.some.injEq,Prod.mk.injEq]at h
    obtain⟨rfl,rfl⟩:=h
    obtain⟨q1,q2,_⟩:=Aj.1 hl
    simp only [h1];exact⟨q1,q2,trivial⟩
   ·cases h
  ·cases h
 ·cases h
def j4 (P:Program) (t:TypeId) (l:List Prop) (x:V) (lo hi:Option V):CV:=
 match x with
 | .c (.str s)=>match S6 s.length lo hi with
   | some (a,h)=>P1 (ED P t) (l++[0≤a∧a≤h∧h≤s.length], .c (.str ((s.drop a.toNat).take (h.toNat - a.toNat))))
   | none=>none
 | .c (.sl len cs)=>match CZ P t,S6 len lo hi with
   | some (_,n),some (a,h)=>some (l++[0≤a∧a≤h∧h≤len,cs.length=len*n], .c (.sl (h.toNat - a.toNat) ((cs.drop (a.toNat*n)).take ((h.toNat - a.toNat)*n))))
   | _,_=>none
 | .c (.ptr id off)=>match FV P t with
   | some (k,_,n)=>match S6 k lo hi with
     | some (a,h)=>some (l++[0≤a∧a<k∧a≤h∧h≤k], .c (.bsl id (off+a.toNat*n) (h.toNat - a.toNat)))
     | none=>none
   | none=>none
 | _=>none
theorem YT {P:Program} {t:TypeId} {l l':List Prop} {x v:V} {lo hi:Option V} (h:j4 P t l x lo hi=some (l',v)) (hl:AH l'):AH l∧(Fq P t x lo hi).1∧(Fq P t x lo hi).2=v:=by
 unfold j4 at h
 unfold Fq
 split at h
 ·split at h
  ·rename_i a hh h1
   obtain⟨hb,hr⟩:=Bu h
   simp only [Prod.mk.injEq]at hr
   obtain⟨rfl,rfl⟩:=hr
   obtain⟨q1,q2,_⟩:=Aj.1 hl
   simp only [h1];exact⟨q1,⟨hb,q2⟩,trivial⟩
  ·cases h
 ·split at h
  ·rename_i h1 h2
   simp only [Option.some.injEq,Prod.mk.injEq]at h
   obtain⟨rfl,rfl⟩:=h
   obtain⟨q1,q2,q3,_⟩:=Aj.1 hl
   simp only [h1,h2];exact⟨q1,⟨q2.1,q2.2.1,q2.2.2,q3⟩,trivial⟩
  ·cases h
 ·split at h
  ·rename_i h1
   split at h
   ·rename_i h2
    simp only [Option.some.injEq,Prod.mk.injEq]at h
    obtain⟨rfl,rfl⟩:=h
    obtain⟨q1,q2,_⟩:=Aj.1 hl
    simp only [h1,h2];exact⟨q1,q2,trivial⟩
   ·cases h
  ·cases h
 ·cases h
def VA (st:St) (g:Bool):Option Operand→List Prop×Option V
 | none=>([],none)
 | some x=>((AI st g x).1,some (AI st g x).2)
theorem gp {st:St} {g:Bool}: ∀ {x:Option Operand},AH (VA st g x).1→(Cy st g x).1∧(Cy st g x).2=(VA st g x).2
 | none,_=>⟨trivial,rfl⟩
 | some x,hl=>by
   have:=Kx (st:=st) (g:=g) (x:=x) hl
   exact⟨this.1,by simp only [Cy,VA,this.2]⟩
def j5 (P:Program) (s:TypeId) (f:Nat) (l:List Prop):V→CV
 | .c (.ptr id off)=>match dt P s f with
   | some (o,_,n)=>P1 (Nat.blt 0 n) (l, .c (.ptr id (off+o)))
   | none=>none
 | .c (.iptr cs off)=>match dt P s f with
   | some (o,_,n)=>P1 (Nat.blt 0 n) (l, .c (.iptr cs (off+o)))
   | none=>none
 | _=>none
theorem YU {P:Program} {s:TypeId} {f:Nat} {l l':List Prop} {x v:V} (h:j5 P s f l x=some (l',v)):l=l'∧(BJ P s f x).1∧(BJ P s f x).2=v:=by
 unfold j5 at h
 unfold BJ
 split at h
 ·split at h
  ·rename_i h1
   obtain⟨hb,hr⟩:=Bu h
   simp only [Prod.mk.injEq]at hr
   simp only [h1];exact⟨hr.1,by simpa using hb,hr.2⟩
  ·cases h
 ·split at h
  ·rename_i h1
   obtain⟨hb,hr⟩:=Bu h
   simp only [Prod.mk.injEq]at hr
   simp only [h1];exact⟨hr.1,by simpa using hb,hr.2⟩
  ·cases h
 ·cases h
def YV (P:Program) (t:TypeId) (f:Nat) (l:List Prop):V→CV
 | .agg cs=>match dt P t f with
   | some (o,ag,n)=>P1 (Nat.ble (o+n) cs.length&&(ag||Nat.blt 0 n)) (l,toV ag o n cs)
   | none=>none
 | _=>none
theorem VB {P:Program} {s:TypeId} {f:Nat} {l l':List Prop} {x v:V} (h:YV P s f l x=some (l',v)):l=l'∧(GW P s f x).1∧(GW P s f x).2=v:=by
 unfold YV at h
 unfold GW
 split at h
 ·split at h
  ·rename_i h1
   obtain⟨hb,hr⟩:=Bu h
   simp only [Prod.mk.injEq]at hr
   simp only [Bool.and_eq_true,Nat.ble_eq,Bool.or_eq_true,Nat.blt_eq]at hb
   simp only [h1];exact⟨hr.1,hb,hr.2⟩
  ·cases h
 ·cases h
def dB (P:Program) (t:TypeId) (l:List Prop) (x y:V) (u:Option V):CV:=
 match y with
 | .c (.int _ i)=>match x with
   | .c (.str s)=>P1 (ED P t) (l++[0≤i∧i<s.length], .c (.int .u8 (s.getD i.toNat 0).toNat))
   | .agg cs=>match FV P t with
     | some (k,e,n)=>match Ir P e,u with
       | some (ag,_),some u=>P1 (Nat.blt 0 n) (l++[(0≤i∧i<k)∧i.toNat*n+n≤cs.length∧toV ag (i.toNat*n) n cs=u],u)
       | _,_=>none
     | none=>none
   | _=>none
 | _=>none
theorem W5 {P:Program} {t:TypeId} {l l':List Prop} {x y v:V} {u:Option V} (h:dB P t l x y u=some (l',v)) (hl:AH l'):AH l∧(Gr P t x y).1∧(Gr P t x y).2=v:=by
 unfold dB at h
 unfold Gr
 split at h
 ·split at h
  ·obtain⟨hb,hr⟩:=Bu h
   simp only [Prod.mk.injEq]at hr
   obtain⟨rfl,rfl⟩:=hr
   obtain⟨q1,q2,_⟩:=Aj.1 hl
   exact⟨q1,⟨hb,q2⟩,rfl⟩
  ·split at h
   ·rename_i h1
    split at h
    ·rename_i h2
     obtain⟨hb,hr⟩:=Bu h
     simp only [Prod.mk.injEq]at hr
     obtain⟨rfl,rfl⟩:=hr
     obtain⟨q1,q2,_⟩:=Aj.1 hl
     simp only [h1,h2]
     exact⟨q1,⟨q2.1.1,q2.1.2,q2.2.1,by simpa using hb⟩,q2.2.2⟩
    ·cases h
   ·cases h
  ·cases h
 ·cases h
def ng (op:UnOp) (l:List Prop):V→CV
 | .c (.int k n)=>match op with
   | .neg =>some (l, .c (.int k (k.wrap (0 - n))))
   | .xor =>some (l, .c (.int k (L9 k (if k.signed then -1 else k.max) n)))
   | _=>none
 | .c (.bool b)=>match op with
   | .not =>some (l, .c (.bool !b))
   | _=>none
 | _=>none
theorem bU {op:UnOp} {l l':List Prop} {x v:V} (h:ng op l x=some (l',v)):l=l'∧(fU op x).1∧(fU op x).2=v:=by
 unfold ng at h
 unfold fU
 split at h<;>(try split at h)<;>simp_all
def dC (P:Program) (src dst:TypeId) (st:St) (l:List Prop):V→CV
 | .c (.int _ n)=>match WG P dst with
   | some k=>P1 (fY P src) (l, .c (.int k (k.wrap n)))
   | none=>none
 | .c (.str s)=>P1 (ED P src&&ED P dst) (l, .c (.str s))
 | x=>some (l++[(HN P src dst st x).1],(HN P src dst st x).2)
theorem W6 {P:Program} {src dst:TypeId} {st:St} {l l':List Prop} {x v:V} (h:dC P src dst st l x=some (l',v)) (hl:AH l'):AH l∧(HN P src dst st x).1∧(HN P src dst st x).2=v:=by
 unfold dC at h
 split at h
 ·unfold HN
  split at h
  ·rename_i h1
   obtain⟨hb,hr⟩:=Bu h
   simp only [Prod.mk.injEq]at hr
   simp only [h1];exact⟨hr.1▸hl,hb,hr.2⟩
  ·cases h
 ·unfold HN
  obtain⟨hb,hr⟩:=Bu h
  simp only [Prod.mk.injEq]at hr
  exact⟨hr.1▸hl,by simpa using hb,hr.2⟩
 ·simp only [Option.some.injEq,Prod.mk.injEq]at h
  obtain⟨rfl,rfl⟩:=h
  obtain⟨q1,q2,_⟩:=Aj.1 hl
  exact⟨q1,q2,rfl⟩
def j6 (P:Program) (t:TypeId) (st:St) (l:List Prop):V→CV
 | .c (.str s)=>P1 (ED P t) (l, .c (.int .i64 s.length))
 | .c (.sl len _)=>P1 (DU P t) (l, .c (.int .i64 len))
 | .c (.osl id)=>match st.lookR id with
   | some e=>match e.row with
     | some (_,_,len)=>P1 (DU P t) (l, .c (.int .i64 len))
     | none=>none
   | none=>none
 | x=>some (l++[(Lj P t st x).1],(Lj P t st x).2)
theorem YW {P:Program} {t:TypeId} {st:St} {l l':List Prop} {x v:V} (h:j6 P t st l x=some (l',v)) (hl:AH l'):AH l∧(Lj P t st x).1∧(Lj P t st x).2=v:=by
 unfold j6 at h
 split at h
 ·obtain⟨hb,hr⟩:=Bu h
  simp only [Prod.mk.injEq]at hr
  exact⟨hr.1▸hl,hb,hr.2⟩
 ·obtain⟨hb,hr⟩:=Bu h
  simp only [Prod.mk.injEq]at hr
  exact⟨hr.1▸hl,hb,hr.2⟩
 ·unfold Lj
  split at h
  ·rename_i h1
   split at h
   ·rename_i h2
    obtain⟨hb,hr⟩:=Bu h
    simp only [Prod.mk.injEq]at hr
    simp only [h1,h2]
    exact⟨hr.1▸hl,hb,hr.2⟩
   ·cases h
  ·cases h
 ·simp only [Option.some.injEq,Prod.mk.injEq]at h
  obtain⟨rfl,rfl⟩:=h
  obtain⟨q1,q2,_⟩:=Aj.1 hl
  exact⟨q1,q2,rfl⟩
def gq (P:Program) (st:St) (g:Bool) (op:Op):Option V→CV
 | none=>some ([(De P st g op).1],(De P st g op).2)
 | some u=>some ([(De P st g op).1∧(De P st g op).2=u],u)
theorem Lq {P:Program} {st:St} {g:Bool} {u:Option V} {op:Op} {l:List Prop} {v:V} (h:gq P st g op u=some (l,v)) (hl:AH l):(De P st g op).1∧(De P st g op).2=v:=by
 cases u<;>simp only [gq,Option.some.injEq,Prod.mk.injEq]at h<;>obtain⟨rfl,rfl⟩:=h
 ·exact⟨hl.1,rfl⟩
 ·exact hl.1
def mY (P:Program) (st:St) (g:Bool) (u:Option V):Op→CV
 | .move x=>some (AI st g x)
 | .assign x=>some (AI st g x)
 | .pick c a b=>match (AI st g c).2 with
   | .c (.bool p)=>jk (AI st g c).1 p (st.ev a) (st.ev b)
   | _=>none
 | .load t x=>match u with
   | none=>al P t st (AI st g x).1 (AI st g x).2
   | some u=>dA P t st (AI st g x).1 u (AI st g x).2
 | .binOp op t x y _=>jY P op t (Bt x||Bt y) ((AI st g x).1++(AI st g y).1) (AI st g x).2 (AI st g y).2
 | .unOp op _ x=>ng op (AI st g x).1 (AI st g x).2
 | .convert src dst x=>dC P src dst st (AI st g x).1 (AI st g x).2
 | .slice t x lo hi none=>j4 P t ((AI st g x).1++((VA st g lo).1++(VA st g hi).1)) (AI st g x).2 (VA st g lo).2 (VA st g hi).2
 | .fieldAddr s x f=>j5 P s f (AI st g x).1 (AI st g x).2
 | .field t x f=>YV P t f (AI st g x).1 (AI st g x).2
 | .indexAddr t x i=>jZ P t st ((AI st g x).1++(AI st g i).1) (AI st g x).2 (AI st g i).2
 | .index t x i=>dB P t ((AI st g x).1++(AI st g i).1) (AI st g x).2 (AI st g i).2 u
 | .call c=>match c.callee,c.args.toList,c.argTypes.toList with
   | .builtin .len,[x],[t]=>j6 P t st (AI st g x).1 (AI st g x).2
   | _,_,_=>gq P st g (.call c) none
 | op=>gq P st g op u
theorem Uo {P:Program} {st:St} {g:Bool} {u:Option V} {op:Op} {l:List Prop} {v:V} (h:mY P st g u op=some (l,v)) (hl:AH l):(De P st g op).1∧(De P st g op).2=v:=by
 have A: ∀ x,AH (AI st g x).1→(st.arg g x).1∧(st.arg g x).2=(AI st g x).2:=fun x hx=>Kx hx
 have O: ∀ x,AH (VA st g x).1→(Cy st g x).1∧(Cy st g x).2=(VA st g x).2:=fun x hx=>gp hx
 cases op<;>simp only [mY]at h<;>try exact Lq h hl
 case move x=>
  simp only [Option.some.injEq]at h
  have:=A x (by rw [h];exact hl)
  rw [h]at this
  simpa only [De,rd] using this
 case assign x=>
  simp only [Option.some.injEq]at h
  have:=A x (by rw [h];exact hl)
  rw [h]at this
  simpa only [De,rd] using this
 case pick c a b=>
  split at h
  ·rename_i p hp
   unfold jk at h
   split at h
   ·rename_i ca q cb r h1 h2
    simp only [Option.some.injEq,Prod.mk.injEq]at h
    obtain⟨rfl,rfl⟩:=h
    obtain⟨q1,q2⟩:=Aj.1 hl
    obtain⟨q2,q3⟩:=Aj.1 q2
    obtain⟨k1,k2⟩:=A c q1
    rw [hp]at k2
    simp only [De,rd,bnd,k2,Qm,Oz h1,Oz h2]
    exact⟨⟨k1,QH q2,QH q3⟩,trivial⟩
   ·cases h
  ·cases h
 case load t x=>
  split at h
  ·have:=OA h
   obtain⟨k1,k2⟩:=A x (this.1▸hl)
   simp only [De,rd,bnd,k2]
   exact⟨⟨k1,this.2.1⟩,this.2.2⟩
  ·have:=W3 h hl
   obtain⟨k1,k2⟩:=A x this.1
   simp only [De,rd,bnd,k2]
   exact⟨⟨k1,this.2.1⟩,this.2.2⟩
 case binOp op t x y ty=>
  have:=YR h hl
  obtain⟨q1,q2⟩:=Aj.1 this.1
  obtain⟨k1,k2⟩:=A x q1
  obtain⟨k3,k4⟩:=A y q2
  have e:De P st g (.binOp op t x y ty)=((st.arg g x).1∧(st.arg g y).1∧(I8 P op t (Bt x||Bt y) (st.arg g x).2 (st.arg g y).2).1,(I8 P op t (Bt x||Bt y) (st.arg g x).2 (st.arg g y).2).2):=by
   simp only [De]
   unfold I8
   split
   ·rename_i cs ds e1 e2;simp only [e1,e2]
   ·rename_i hne
    split
    ·rename_i cs ds e1 e2;exact(hne cs ds e1 e2).elim
    ·rfl
  rw [e,k2,k4]
  exact⟨⟨k1,k3,this.2.1⟩,this.2.2⟩
 case unOp op t x=>
  have:=bU h
  obtain⟨k1,k2⟩:=A x (this.1▸hl)
  simp only [De,rd,bnd,k2]
  exact⟨⟨k1,this.2.1⟩,this.2.2⟩
 case convert s d x=>
  have:=W6 h hl
  obtain⟨k1,k2⟩:=A x this.1
  simp only [De,rd,bnd,k2]
  exact⟨⟨k1,this.2.1⟩,this.2.2⟩
 case slice t x lo hi mx=>
  cases mx with
  | some m=>exact Lq h hl
  | none=>
    have:=YT h hl
    obtain⟨q1,q2⟩:=Aj.1 this.1
    obtain⟨q2,q3⟩:=Aj.1 q2
    obtain⟨k1,k2⟩:=A x q1
    obtain⟨k3,k4⟩:=O lo q2
    obtain⟨k5,k6⟩:=O hi q3
    simp only [De,rd,bnd,k2,k4,k6]
    exact⟨⟨k1,k3,k5,this.2.1⟩,this.2.2⟩
 case fieldAddr s x f=>
  have:=YU h
  obtain⟨k1,k2⟩:=A x (this.1▸hl)
  simp only [De,rd,bnd,k2]
  exact⟨⟨k1,this.2.1⟩,this.2.2⟩
 case field s x f=>
  have:=VB h
  obtain⟨k1,k2⟩:=A x (this.1▸hl)
  simp only [De,rd,bnd,k2]
  exact⟨⟨k1,this.2.1⟩,this.2.2⟩
 case indexAddr t x y=>
  have:=YS h hl
  obtain⟨q1,q2⟩:=Aj.1 this.1
  obtain⟨k1,k2⟩:=A x q1
  obtain⟨k3,k4⟩:=A y q2
  simp only [De,rd,bnd,k2,k4]
  exact⟨⟨k1,k3,this.2.1⟩,this.2.2⟩
 case index t x y=>
  have:=W5 h hl
  obtain⟨q1,q2⟩:=Aj.1 this.1
  obtain⟨k1,k2⟩:=A x q1
  obtain⟨k3,k4⟩:=A y q2
  simp only [De,rd,bnd,k2,k4]
  exact⟨⟨k1,k3,this.2.1⟩,this.2.2⟩
 case call c=>
  split at h
  ·rename_i x t h1 h2 h3
   have:=YW h hl
   obtain⟨k1,k2⟩:=A x this.1
   simp only [De,rd,h1,h2,h3,Lm,bnd,k2]
   exact⟨⟨k1,this.2.1⟩,this.2.2⟩
  ·exact Lq h hl
def jl (P:Program) (st:St) (g:Bool) (u:Option V) (op:Op):CV:=
 match u with
 | none=>mY P st g none op
 | some u=>match mY P st g (some u) op with
   | some (l,v)=>some (l++[v=u],u)
   | none=>none
theorem Ky {P:Program} {st:St} {g:Bool} {u:Option V} {op:Op} {l:List Prop} {v:V} (h:jl P st g u op=some (l,v)) (hl:AH l):(De P st g op).1∧(De P st g op).2=v:=by
 cases u with
 | none=>simp only [jl]at h;exact Uo h hl
 | some u=>
   simp only [jl]at h
   split at h
   ·rename_i l1 v1 h1
    simp only [Option.some.injEq,Prod.mk.injEq]at h
    obtain⟨rfl,rfl⟩:=h
    obtain⟨q1,q2,_⟩:=Aj.1 hl
    obtain⟨k1,k2⟩:=Uo h1 q1
    exact⟨k1,k2.trans q2⟩
   ·cases h
end Go.PL
namespace Go.PL
open Go Go.RowKit
mutual
def C.menP (p:Ah→Bool):C→Bool
 | .osl i=>p i
 | .ptr i _=>p i
 | .bsl i _ _=>p i
 | .rsl i _ _ _=>p i
 | .bld i _=>p i
 | .mref i=>p i
 | .clo _ cs=>CO p cs
 | .bmv _ cs=>CO p cs
 | _=>false
def CO (p:Ah→Bool):List C→Bool
 | []=>false
 | c::cs=>c.menP p||CO p cs
end
mutual
def V.menP (p:Ah→Bool):V→Bool
 | .c x=>x.menP p
 | .agg cs=>CO p cs
 | .tup vs=>JY p vs
 | .g _ v=>v.menP p
 | .undef =>false
def JY (p:Ah→Bool):List V→Bool
 | []=>false
 | v::vs=>v.menP p||JY p vs
end
def Cz (p:Ah→Bool) (c:C):C:=if c.menP p then .any else c
def BR (p:Ah→Bool) (v:V):V:=if v.menP p then .undef else v
def As.killP (p:Ah→Bool) (e:As):As:=match e with
 | ⟨i,r,cs,true⟩=>⟨i,r,cs,true⟩
 | ⟨i,r,cs,false⟩=>⟨i,r,cs.map (Cz p),false⟩
theorem As.killP_id (p:Ah→Bool) (e:As):(e.killP p).id =e.id:=by obtain⟨i,r,cs,_ | _⟩:=e<;>rfl
theorem As.killP_pu (p:Ah→Bool) (e:As):(e.killP p).pu =e.pu:=by obtain⟨i,r,cs,_ | _⟩:=e<;>rfl
mutual
theorem YX (p:Ah→Bool) (i:Ah): ∀ c:C,c.menP p=false→c.men i=true→p i=false
 | .osl _,h,k=>by simp only [C.menP,C.men,beq_iff_eq]at h k;rw [←k];exact h
 | .ptr _ _,h,k=>by simp only [C.menP,C.men,beq_iff_eq]at h k;rw [←k];exact h
 | .rsl _ _ _ _,h,k=>by simp only [C.menP,C.men,beq_iff_eq]at h k;rw [←k];exact h
 | .bsl _ _ _,h,k=>by simp only [C.menP,C.men,beq_iff_eq]at h k;rw [←k];exact h
 | .bld _ _,h,k=>by simp only [C.menP,C.men,beq_iff_eq]at h k;rw [←k];exact h
 | .mref _,h,k=>by simp only [C.menP,C.men,beq_iff_eq]at h k;rw [←k];exact h
 | .clo _ cs,h,k=>QI p i cs (by simpa only [C.menP] using h) (by simpa only [C.men] using k)
 | .bmv _ cs,h,k=>QI p i cs (by simpa only [C.menP] using h) (by simpa only [C.men] using k)
 | .int ..,_,k=>by simp [C.men]at k
 | .bool _,_,k=>by simp [C.men]at k
 | .str _,_,k=>by simp [C.men]at k
 | .sl ..,_,k=>by simp [C.men]at k
 | .iptr ..,_,k=>by simp [C.men]at k
 | .nilp,_,k=>by simp [C.men]at k
 | .niface,_,k=>by simp [C.men]at k
 | .nils,_,k=>by simp [C.men]at k
 | .fn _,_,k=>by simp [C.men]at k
 | .held,_,k=>by simp [C.men]at k
 | .any,_,k=>by simp [C.men]at k
 | .gptr ..,_,k=>by simp [C.men]at k
 | .mp _,_,k=>by simp [C.men]at k
 | .isl ..,_,k=>by simp [C.men]at k
theorem QI (p:Ah→Bool) (i:Ah): ∀ cs:List C,CO p cs=false→BE i cs=true→p i=false
 | [],_,k=>by simp [BE]at k
 | c::cs,h,k=>by
   simp only [CO,Bool.or_eq_false_iff]at h
   simp only [BE,Bool.or_eq_true]at k
   rcases k with k | k
   ·exact YX p i c h.1 k
   ·exact QI p i cs h.2 k
end
mutual
theorem VC (p:Ah→Bool) (i:Ah): ∀ v:V,v.menP p=false→v.men i=true→p i=false
 | .c x,h,k=>YX p i x (by simpa only [V.menP] using h) (by simpa only [V.men] using k)
 | .agg cs,h,k=>QI p i cs (by simpa only [V.menP] using h) (by simpa only [V.men] using k)
 | .tup vs,h,k=>am p i vs (by simpa only [V.menP] using h) (by simpa only [V.men] using k)
 | .g b v,h,k=>by
   simp only [V.men,Bool.and_eq_true]at k
   exact VC p i v (by simpa only [V.menP] using h) k.1
 | .undef,_,k=>by simp [V.men]at k
theorem am (p:Ah→Bool) (i:Ah): ∀ vs:List V,JY p vs=false→Ig i vs=true→p i=false
 | [],_,k=>by simp [Ig]at k
 | v::vs,h,k=>by
   simp only [JY,Bool.or_eq_false_iff]at h
   simp only [Ig,Bool.or_eq_true]at k
   rcases k with k | k
   ·exact VC p i v h.1 k
   ·exact am p i vs h.2 k
end
theorem QJ {p:Ah→Bool} {i:Ah} {c:C} (h:(Cz p c).men i=true):p i=false:=by
 unfold Cz at h
 split at h
 ·simp [C.men]at h
 ·rename_i q;exact YX p i c (by simpa using q) h
theorem QK {p:Ah→Bool} {i:Ah}: ∀ {cs:List C},BE i (cs.map (Cz p))=true→p i=false
 | [],h=>by simp [BE]at h
 | c::cs,h=>by
   simp only [List.map_cons,BE,Bool.or_eq_true]at h
   rcases h with h | h
   ·exact QJ h
   ·exact QK h
theorem He {p:Ah→Bool} {i:Ah} {v:V} (h:(BR p v).men i=true):p i=false:=by
 unfold BR at h
 split at h
 ·simp [V.men]at h
 ·rename_i q;exact VC p i v (by simpa using q) h
theorem OB {p:Ah→Bool} {i:Ah}: ∀ {vs:List V},Ig i (vs.map (BR p))=true→p i=false
 | [],h=>by simp [Ig]at h
 | v::vs,h=>by
   simp only [List.map_cons,Ig,Bool.or_eq_true]at h
   rcases h with h | h
   ·exact He h
   ·exact OB h
theorem QL {w:World} {G:Ay} {p:Ah→Bool} {c:C} {v:Value} (h:Ad w G c v):Ad w G (Cz p c) v:=by
 unfold Cz;split
 ·simp only [Ad];exact h.one
 ·exact h
theorem I9 {w:World} {G:Ay} {p:Ah→Bool}: ∀ {cs:List C} {b o:Nat},Ak w G cs b o→Ak w G (cs.map (Cz p)) b o
 | [],_,_,_=>by simp only [List.map_nil,Ak]
 | c::cs,b,o,h=>by
   simp only [Ak,List.map_cons]at h ⊢
   exact⟨h.1.imp fun v q=>⟨q.1,QL q.2⟩,I9 h.2⟩
theorem Hf {w:World} {G:Ay} {p:Ah→Bool} {x:V} {v:Value} (h:Ab w G x v):Ab w G (BR p x) v:=by
 unfold BR;split
 ·simp only [Ab]
 ·exact h
theorem OC {w:World} {G:Ay} {p:Ah→Bool}: ∀ {xs:List V} {vs:List Value},Ap w G xs vs→Ap w G (xs.map (BR p)) vs
 | [],vs,h=>by simpa [Ap] using h
 | x::xs,vs,h=>by
   simp only [Ap,List.map_cons]at h ⊢
   obtain⟨v,r,e,h1,h2⟩:=h
   exact⟨v,r,e,Hf h1,OC h2⟩
theorem dD {p:Ah→Bool} {kv:List (Int×Int)}:[C.mp kv].map (Cz p)=[C.mp kv]:=by simp [Cz,C.menP]
theorem YY {w:World} {G:Ay} {p:Ah→Bool} {e:As} (h:AX w G e):AX w G (e.killP p):=by
 obtain⟨i,r,cs,pu⟩:=e
 cases pu with
 | true=>exact h
 | false=>
 unfold AX at *
 cases r with
 | none=>
   obtain⟨b,h1,h2⟩:=h
   refine⟨b,h1,?_⟩
   rcases h2 with ⟨kv,es,h2,h3⟩ | ⟨T,cur,h2,h3,h4⟩
   ·dsimp only [As.killP]at h2 ⊢
    rw [h2,dD];exact .inl ⟨kv,es,rfl,h3⟩
   ·exact .inr ⟨T,cur,h2,by simpa [As.killP] using h3,I9 h4⟩
 | some q=>
   obtain⟨E,n,len⟩:=q
   obtain⟨hl,v,h1,h2⟩:=h
   refine⟨by simpa [As.killP] using hl,v,h1,?_⟩
   rcases h2 with h2 | ⟨b,cap,cur,e1,e2,e3,e4,e5,e6,e7⟩
   ·exact .inl h2
   ·exact .inr ⟨b,cap,cur,e1,e2,e3,e4,e5,e6,I9 e7⟩
theorem dE {p:Ah→Bool} {i:Ah} {e:As} (hp:e.pu=true→Ao e.cs=true) (h:BE i (e.killP p).cs =true):p i=false:=by
 obtain⟨j,r,cs,pu⟩:=e
 cases pu with
 | true=>rw [show (As.killP p ⟨j,r,cs,true⟩).cs =cs from rfl,AG i cs (hp rfl)]at h;cases h
 | false=>exact QK (cs:=cs) h
theorem Bi.killP {w:World} {G:Ay} {p:Ah→Bool} {e:As} (h:Bi w G e):Bi w G (e.killP p):=by
 obtain⟨i,r,cs,pu⟩:=e
 cases pu with
 | true=>exact h
 | false=>exact⟨h.1,fun hd=>absurd (h.2 hd).1 (by simp)⟩
theorem Lr {p:Ah→Bool} {e:As} (h:e.pu=true→Ao e.cs=true):(e.killP p).pu =true→Ao (e.killP p).cs =true:=by
 obtain⟨i,r,cs,pu⟩:=e
 cases pu with
 | true=>exact h
 | false=>intro hq;cases hq
theorem dF (cs:List C):CO (fun _=>false) cs=false:=by
 have key: ∀ c:C,c.menP (fun _=>false)=false:=by
  intro c
  induction c using C.rec (motive_2:=fun cs=>CO (fun _=>false) cs=false)<;>simp_all [C.menP,CO]
 induction cs with
 | nil=>rfl
 | cons c cs ih=>simp [CO,key,ih]
theorem gu (c:C):c.menP (fun _=>false)=false:=by
 have:=dF [c]
 simpa [CO] using this
theorem Up: ∀ cs:List C,cs.map (Cz (fun _=>false))=cs
 | []=>rfl
 | c::cs=>by rw [List.map_cons,Up cs,Cz,if_neg (by simp [gu])]
theorem As.killP_ff (e:As):e.killP (fun _=>false)=e:=by
 obtain⟨i,r,cs,_ | _⟩:=e
 ·simp only [As.killP,Up]
 ·rfl
structure Turn (F:Fr) (p q:Ah→Bool) (G G':Ay) (w w':World):Prop where
 agree: ∀ i,p i=false→G'.blk i=G.blk i∧G'.own i=G.own i
 same: ∀ i b,q i=false→G.blk i=some b→w'.heap[b]? =w.heap[b]?
 keeps:B3 G G' w w'
 outer:JR w w'
 ext: ∀ b,b<F.w0.heap.size→ ¬F.old b→w'.heap[b]? =w.heap[b]?
 wr: ∀ b,G'.wr b↔F.av b∨ ∃ i,G'.blk i=some b
 inj: ∀ i j b,G'.blk i=some b→G'.blk j=some b→i=j
 lt: ∀ i b,G'.blk i=some b→b<w'.heap.size
 new: ∀ i b,G'.blk i=some b→F.w0.heap.size≤b∨F.old b
def St.killP (st:St) (p:Ah→Bool) (so:List As):St:={tm:=st.tm.map (BR p),so:=so,gh:=st.gh.map (BR p),pre:=st.pre}
section
variable {F:Fr} {st:St} {a:Act} {w w':World} {G G':Ay} {p q:Ah→Bool}
theorem Turn.ent (h:R F st a w G) (t:Turn F p q G G' w w') {e:As} (he:e∈st.so) (hp:p e.id=false) (hq:q e.id=false):AX w' G' (e.killP p):=by
 refine Cj t.keeps (fun i hi=>t.agree i (dE (h.pures e he) hi)) ?_ ?_ (YY (h.store e he))
 ·rw [As.killP_id];exact t.agree _ hp
 ·intro b hb;rw [As.killP_id]at hb;exact t.same _ b hq hb
theorem Turn.deep (h:R F st a w G) (t:Turn F p q G G' w w') {e:As} (he:e∈st.so) (hp:p e.id=false) (hq:q e.id=false) (hm:Ed e.id=true→ ∀ k,p (BH k e.id)=false∧q (BH k e.id)=false):Bi w' G' (e.killP p):=by
 refine Bi.mono t.keeps (by rw [As.killP_id];exact t.agree _ hp) (fun hd k=>?_) ?_ (fun hd k b hb=>?_) (h.deep e he).killP
 ·rw [As.killP_id]at hd ⊢;exact t.agree _ (hm hd k).1
 ·intro b hb;rw [As.killP_id]at hb;exact t.same _ b hq hb
 ·rw [As.killP_id]at hd hb;exact t.same _ b (hm hd k).2 hb
theorem Turn.rel (h:R F st a w G) (t:Turn F p q G G' w w') (st':St) (hl:st'.tm.length=st.tm.length) (hs: ∀ i,Ab w' G' (st'.tm.getD i .undef) (a.tmps.getD i Go.undef)) (hg:Ap w' G' st'.gh F.gv)
 (h1: ∀ e∈st'.so,AX w' G' e) (h2: ∀ e∈st'.so,Bi w' G' e) (h3: ∀ e∈st'.so,e.pu=true→Ao e.cs=true) (h4:(st'.so.map (·.id)).Nodup):R F st' a w' G' where
 dfr:=h.dfr
 size:=by rw [hl];exact h.size
 slots:=hs
 ghosts:=hg
 store:=h1
 deep:=h2
 pures:=h3
 nodup:=h4
 inj:=t.inj
 lt:=t.lt
 new:=t.new
 wr:=t.wr
 avlt:=h.avlt
 inv:=h.inv
 avold:=h.avold
 os:=t.outer.os.trans h.os
 tape:=t.outer.tape.trans h.tape
 output:=t.outer.output.trans h.output
 hsize:=Nat.le_trans h.hsize t.keeps.size
 ext:=fun b hb ho=>(t.ext b hb ho).trans (h.ext b hb ho)
theorem Turn.killed (h:R F st a w G) (t:Turn F p q G G' w w') (so:List As)
 (h1: ∀ e∈so,AX w' G' e) (h2: ∀ e∈so,Bi w' G' e) (h3: ∀ e∈so,e.pu=true→Ao e.cs=true) (h4:(so.map (·.id)).Nodup):R F (st.killP p so) a w' G':=by
 refine t.rel h (st.killP p so) (by simp [St.killP]) (fun i=>?_) ?_ h1 h2 h3 h4
 ·simp only [St.killP]
  rw [EE (by simp [BR,V.menP])]
  exact Ab.mono t.keeps _ _ (fun i hi=>t.agree i (He hi)) (Hf (h.slots i))
 ·exact Ap.mono t.keeps _ _ (fun i hi=>t.agree i (OB hi)) (OC h.ghosts)
theorem Turn.kept (h:R F st a w G) (t:Turn F (fun _=>false) q G G' w w') (so:List As)
 (h1: ∀ e∈so,AX w' G' e) (h2: ∀ e∈so,Bi w' G' e) (h3: ∀ e∈so,e.pu=true→Ao e.cs=true) (h4:(so.map (·.id)).Nodup):R F {st with so:=so} a w' G':=
 t.rel h {st with so:=so} rfl (fun i=>Ab.mono t.keeps _ _ (fun i _=>t.agree i rfl) (h.slots i)) (Ap.mono t.keeps _ _ (fun i _=>t.agree i rfl) h.ghosts) h1 h2 h3 h4
theorem W7 (h:R F st a w G) {i0:Ah} {b:Nat} (hb:G.blk i0=some b) {cur:Array Value} {T:TypeId} (hh:w.heap[b]? =some (.cells cur T (0,0))) (row:Array Value):Turn F (fun _=>false) (· ==i0) G G w (w.setRow b row) where
 agree:=fun _ _=>⟨rfl,rfl⟩
 same:=fun i b' hi hb'=>setRow_other w b b' _ (fun e=>by
  have:=h.inj i i0 b' hb' (by rw [e];exact hb)
  rw [this]at hi;simp at hi)
 keeps:=⟨by simp,fun k _ hw=>setRow_other w b k _ (fun e=>hw ((h.wr k).2 (.inr ⟨i0,by rw [e];exact hb⟩))),fun _ _ q=>q,fun i k h1 _=>by
  by_cases hkb:k=b
  ·subst hkb
   intro cur' T' fz' hq
   rw [hh]at hq
   injection hq with hq
   injection hq with _ hq _
   subst hq
   exact⟨_,_,setRow_heap w k cur row T (0,0) hh⟩
  ·exact BX.same (setRow_other w b k _ hkb)⟩
 outer:=⟨by simp,by simp,by simp⟩
 ext:=fun k hk ho=>setRow_other w b k _ (fun e=>by
  rcases h.new i0 b hb with q | q
  ·omega
  ·exact ho (by rw [e];exact q))
 wr:=h.wr
 inj:=h.inj
 lt:=fun i k hi=>by simpa using h.lt i k hi
 new:=h.new
theorem Hg (h:R F st a w G) (G':Ay) (hw:G'.wr=fun b=>F.av b∨ ∃ i,G'.blk i=some b) (ha: ∀ i,p i=false→G'.blk i=G.blk i∧G'.own i=G.own i) (hs: ∀ i b,G'.blk i=some b→ ∃ j,G.blk j=some b)
 (hi: ∀ i j b,G'.blk i=some b→G'.blk j=some b→i=j):Turn F p (fun _=>false) G G' w w where
 agree:=ha
 same:=fun _ _ _ _=>rfl
 keeps:=⟨Nat.le_refl _,fun _ _ _=>rfl,fun b _ hb=>by
  rw [hw]at hb
  rw [h.wr]
  rcases hb with hb | ⟨i,hb⟩
  ·exact .inl hb
  ·exact .inr (hs i b hb),fun _ _ _ _=>BX.same rfl⟩
 outer:=⟨rfl,rfl,rfl⟩
 ext:=fun _ _ _=>rfl
 wr:=fun b=>by rw [hw]
 inj:=hi
 lt:=fun i b hb=>by obtain⟨j,hj⟩:=hs i b hb;exact h.lt j b hj
 new:=fun i b hb=>by obtain⟨j,hj⟩:=hs i b hb;exact h.new j b hj
theorem R.uniq (h:R F st a w G) {d e:As} (hd:d∈st.so) (he:e∈st.so) (hi:d.id=e.id):d=e:=by
 have:=List.pairwise_map.1 h.nodup
 rcases List.mem_iff_getElem.1 hd with ⟨i,hi1,rfl⟩
 rcases List.mem_iff_getElem.1 he with ⟨j,hj1,rfl⟩
 rcases Nat.lt_trichotomy i j with z | z | z
 ·exact absurd hi (List.pairwise_iff_getElem.1 this i j hi1 hj1 z)
 ·subst z;rfl
 ·exact absurd hi.symm (List.pairwise_iff_getElem.1 this j i hj1 hi1 z)
end
def St.lookD (st:St) (id:Ah):Option As:=st.so.find? (fun e=>e.id==id&&Ed e.id)
theorem Kz {st:St} {id:Ah} {e:As} (h:st.lookD id=some e):e∈st.so∧e.id=id∧Ed id=true:=by
 have:=List.find?_some h
 simp only [Bool.and_eq_true,beq_iff_eq]at this
 exact⟨List.mem_of_find?_eq_some h,this.1,by rw [←this.1];exact this.2⟩
def setE (id:Ah) (row:Option (TypeId×Nat×Nat)) (cells:List C) (e:As):As:=match e.id==id with
 | true=>⟨e.id,row,cells,e.pu⟩
 | false=>e
theorem VD (id:Ah) (row:Option (TypeId×Nat×Nat)) (cells:List C) (e:As):(setE id row cells e).id =e.id:=by unfold setE;split<;>rfl
theorem EZ {id:Ah} {row:Option (TypeId×Nat×Nat)} {cells:List C} {e:As} (h:e.id ≠ id):setE id row cells e=e:=by unfold setE;rw [show (e.id==id)=false by simpa using h]
theorem DZ {id:Ah} {row:Option (TypeId×Nat×Nat)} {cells:List C} {e:As} (h:e.id=id):setE id row cells e=⟨e.id,row,cells,e.pu⟩:=by unfold setE;rw [show (e.id==id)=true by simpa using h]
def Dm (id:Ah):Ah→Bool
 | m::_::j=>Nat.beq m 1000007&&j==id
 | _=>false
theorem Hh (id:Ah) (k:Nat) (j:Ah):Dm id (BH k j)=(j==id):=by simp [Dm,BH]
theorem HT {w:World} {G:Ay}: ∀ {cs:List C} {b o j:Nat} {c:C},Ak w G cs b o→(∀ v d,cs[j]? =some d→w.cell? ⟨b,o+j,none⟩=some v→Ad w G d v→Ad w G c v)→Ak w G (cs.set j c) b o
 | [],_,_,_,_,h,_=>by simpa using h
 | d::cs,b,o,0,c,h,hc=>by
   simp only [Ak]at h
   simp only [List.set_cons_zero,Ak]
   obtain⟨⟨v,h1,h2⟩,h3⟩:=h
   exact⟨⟨v,h1,hc v d (by simp) (by simpa using h1) h2⟩,h3⟩
 | d::cs,b,o,j+1,c,h,hc=>by
   simp only [Ak]at h
   simp only [List.set_cons_succ,Ak]
   exact⟨h.1,HT h.2 (fun v d hd hv=>hc v d (by simpa using hd) (by rw [show o+(j+1)=o+1+j by omega];exact hv))⟩
section
variable {F:Fr} {st:St} {a:Act} {w w':World} {G G':Ay} {p q:Ah→Bool}
theorem R.deepRow (h:R F st a w G) {id:Ah} {e:As} (hl:st.lookD id=some e):e∈st.so∧e.id=id∧Ed id=true∧CJ id=false∧e.pu=true∧Ao e.cs=true∧Em w G e∧ ∃ E n len,e.row=some (E,n,len):=by
 obtain⟨hm,hid,hd⟩:=Kz hl
 obtain⟨h1,h2⟩:=h.deep e hm
 obtain⟨h3,h4,h5⟩:=h2 (by rw [hid];exact hd)
 refine⟨hm,hid,hd,by rw [←hid];exact h1,h3,h.pures e hm h3,h5,?_⟩
 cases hr:e.row with
 | none=>rw [hr]at h4;cases h4
 | some q=>exact⟨q.1,q.2.1,q.2.2,rfl⟩
theorem R.inner (h:R F st a w G) {id:Ah} {e:As} (hl:st.lookD id=some e) {k n len:Nat} {E:TypeId} {cs:List C} (hk:e.cs[k]? =some (.isl E n len cs)):
 Ao cs=true∧AX w G ⟨BH k id,some (E,n,len),cs,true⟩∧ ∃ b v,G.blk id=some b∧w.cell? ⟨b,k,none⟩=some v∧G.own (BH k id)=some v:=by
 obtain⟨hm,hid,hd,_,_,_,hi,_⟩:=h.deepRow hl
 have:=hi k E n len cs hk
 rw [hid]at this
 exact this
theorem R.deepRel (h:R F st a w G) {id:Ah} {e:As} (hl:st.lookD id=some e) {b:Nat} (hb:G.blk id=some b): ∃ E n len v cap cur,e.row=some (E,n,len)∧e.cs.length=len*n∧G.own id=some v∧v= .slice (some ⟨b,0,none⟩) len cap∧w.heap[b]? =some (.cells cur E (0,0))∧len≤cap∧cap≤maxLen∧cur.size=cap*n∧Ak w G e.cs b 0:=by
 obtain⟨hm,hid,_,_,_,_,_,E,n,len,hr⟩:=h.deepRow hl
 have hE:=h.store e hm
 unfold AX at hE
 rw [hr]at hE
 obtain⟨hl,v,h1,h2 | ⟨b',cap,cur,e1,e2,e3,e4,e5,e6,e7⟩⟩:=hE
 ·obtain⟨_,_,_,h2⟩:=h2;rw [hid,hb]at h2;cases h2
 ·rw [hid]at h1 e2
  rw [hb]at e2;injection e2 with e2;subst e2
  exact⟨E,n,len,v,cap,cur,hr,hl,h1,e1,e3,e4,e5,e6,e7⟩
theorem Turn.ents (h:R F st a w G) (t:Turn F p q G G' w w') {id:Ah} {e:As} (hl:st.lookD id=some e) (f:As→Bool) (hf: ∀ d∈st.so,f d=true→d.id ≠ id→p d.id=false∧q d.id=false∧(Ed d.id=true→ ∀ k,p (BH k d.id)=false∧q (BH k d.id)=false))
 {cells:List C} {row:Option (TypeId×Nat×Nat)} (hrs:row.isSome=true) (h1:AX w' G' ⟨id,row,cells,true⟩) (h2:Em w' G' ⟨id,row,cells,true⟩) (h3:Ao cells=true):
 (∀ d∈((st.so.filter f).map (As.killP p)).map (setE id row cells),AX w' G' d)∧(∀ d∈((st.so.filter f).map (As.killP p)).map (setE id row cells),Bi w' G' d)∧
 (∀ d∈((st.so.filter f).map (As.killP p)).map (setE id row cells),d.pu=true→Ao d.cs=true)∧((((st.so.filter f).map (As.killP p)).map (setE id row cells)).map (·.id)).Nodup :=by
 obtain⟨hm,hid,hd,hmk,hpu,hpe,hi,E,n,len,hr⟩:=h.deepRow hl
 have key: ∀ d∈((st.so.filter f).map (As.killP p)).map (setE id row cells),(d=⟨id,row,cells,true⟩)∨ ∃ x∈st.so,f x=true∧x.id ≠ id∧d=x.killP p:=by
  intro d hd
  simp only [List.map_map,List.mem_map,List.mem_filter,Function.comp]at hd
  obtain⟨x,⟨hx,hfx⟩,rfl⟩:=hd
  by_cases hxi:x.id=id
  ·have:=h.uniq hx hm (hxi.trans hid.symm)
   subst this
   left
   have hk:x.killP p=x:=by
    obtain⟨i,r,cs,pu⟩:=x
    simp only at hpu;subst hpu;rfl
   rw [hk,DZ hxi,hxi,hpu]
  ·right
   exact⟨x,hx,hfx,hxi,EZ (by rw [As.killP_id];exact hxi)⟩
 refine⟨fun d hd'=>?_,fun d hd'=>?_,fun d hd'=>?_,?_⟩
 ·rcases key d hd' with rfl | ⟨x,hx,hfx,hxi,rfl⟩
  ·exact h1
  ·obtain⟨k1,k2,_⟩:=hf x hx hfx hxi
   exact t.ent h hx k1 k2
 ·rcases key d hd' with rfl | ⟨x,hx,hfx,hxi,rfl⟩
  ·exact⟨hmk,fun _=>⟨rfl,hrs,h2⟩⟩
  ·obtain⟨k1,k2,k3⟩:=hf x hx hfx hxi
   exact t.deep h hx k1 k2 k3
 ·rcases key d hd' with rfl | ⟨x,hx,hfx,hxi,rfl⟩
  ·exact fun _=>h3
  ·exact Lr (h.pures x hx)
 ·have:(((st.so.filter f).map (As.killP p)).map (setE id row cells)).map (·.id)=(st.so.filter f).map (·.id):=by
   simp [List.map_map,Function.comp_def,VD,As.killP_id]
  rw [this]
  exact List.Sublist.nodup (List.Sublist.map (fun d:As=>d.id) List.filter_sublist) h.nodup
theorem Mo (l:List As):l.map (As.killP fun _=>false)=l:=by
 induction l with
 | nil=>rfl
 | cons x l ih=>rw [List.map_cons,ih,As.killP_ff]
end
end Go.PL
namespace Go.PL
open Go Go.RowKit
section
variable {F:Fr} {st:St} {a:Act} {w w':World} {G G':Ay} {p q:Ah→Bool}
theorem HU (l:List As):l.filter (fun _=>true)=l:=List.filter_eq_self.2 (fun _ _=>rfl)
theorem CD {id j:Ah} (h:CJ id=false) (k:Nat):id ≠ BH k j:=fun e=>by rw [e]at h;cases h
theorem OD (h:R F st a w G) {i0:Ah} (d:As) (hd:d∈st.so) (hne:d.id ≠ i0) (hmk: ∀ k,Ed d.id=true→BH k d.id ≠ i0):
 (fun _=>false:Ah→Bool) d.id=false∧(d.id==i0)=false∧(Ed d.id=true→ ∀ k,(fun _=>false:Ah→Bool) (BH k d.id)=false∧(BH k d.id==i0)=false):=
 ⟨rfl,by simpa using hne,fun hq k=>⟨rfl,by simpa using hmk k hq⟩⟩
def St.setD (st:St) (id:Ah) (row:Option (TypeId×Nat×Nat)) (cells:List C):St:={st with so:=st.so.map (setE id row cells)}
theorem R.innerStored (h:R F st a w G) {id:Ah} {e:As} (hl:st.lookD id=some e) {k n len:Nat} {E:TypeId} {cs:List C} (hk:e.cs[k]? =some (.isl E n len cs)) {b:Nat} (hb:G.blk (BH k id)=some b)
 {off:Nat} {xs:List C} {vs:List Value} (hx:Ai w G xs vs) (hoff:off+xs.length≤cs.length) (hp:Ao xs=true):
 ∃ cur T,w.heap[b]? =some (.cells cur T (0,0))∧off+vs.length≤cur.size∧
   R F (st.setD id e.row (e.cs.set k (.isl E n len (cs.take off++xs++cs.drop (off+xs.length))))) a (w.setRow b (cur.toList.take off++vs++cur.toList.drop (off+vs.length)).toArray) G:=by
 obtain⟨hm,hid,hd,hmk,hpu,hpe,hi,E0,n0,len0,hr⟩:=h.deepRow hl
 obtain⟨hpc,hE,bo,vo,hbo,hcell,hown⟩:=h.inner hl hk
 unfold AX at hE
 obtain⟨hcl,v,h1,h2 | ⟨b',cap,cur,e1,e2,e3,e4,e5,e6,e7⟩⟩:=hE
 ·obtain⟨_,_,_,h2⟩:=h2;rw [hb]at h2;cases h2
 rw [show (⟨BH k id,some (E,n,len),cs,true⟩:As).id =BH k id from rfl]at h1 e2
 rw [hb]at e2;injection e2 with e2;subst e2
 obtain⟨us,r1,r2⟩:=e7.list
 simp only at r1 e7 hcl
 have hlx:=hx.length
 have hlu:=r1.length
 have hle:cs.length≤cur.size:=by rw [hcl,e6];exact Nat.mul_le_mul_right _ e4
 have hpre:=FM e3 r2
 refine⟨cur,E,e3,by omega,?_⟩
 have t:=W7 h hb e3 (cur.toList.take off++vs++cur.toList.drop (off+vs.length)).toArray
 have hnew:=setRow_heap w b cur (cur.toList.take off++vs++cur.toList.drop (off+vs.length)).toArray E (0,0) e3
 have hsplit:(us.take off++vs++us.drop (off+vs.length))++cur.toList.drop us.length=(cur.toList.take off++vs++cur.toList.drop (off+vs.length)).toArray.toList :=by
  conv=>rhs;rw [←hpre]
  simp only [List.append_assoc]
  rw [List.take_append_of_le_length (by omega),List.drop_append_of_le_length (by omega)]
 have hrange:=By hnew hsplit
 have hl2:Ai w G (cs.take off++xs++cs.drop (off+xs.length)) (us.take off++vs++us.drop (off+vs.length)):=by
  rw [hlx]
  exact((r1.take off).append hx).append (r1.drop _)
 have hrow':=Ak.of_list (Ai.mono t.keeps _ _ (fun _ _=>⟨rfl,rfl⟩) hl2) hrange
 have hlen:(cs.take off++xs++cs.drop (off+xs.length)).length =cs.length:=by simp;omega
 have hcur:(cur.toList.take off++vs++cur.toList.drop (off+vs.length)).toArray.size =cur.size:=by simp;omega
 have hpx:Ao (cs.take off++xs++cs.drop (off+xs.length))=true:=by
  rw [Bk,Bk,IZ _ hpc,hp,I1 _ hpc];rfl
 have hne:bo ≠ b:=fun q=>CD hmk k (h.inj _ _ bo hbo (by rw [q];exact hb))
 have hcs: ∀ o,(w.setRow b (cur.toList.take off++vs++cur.toList.drop (off+vs.length)).toArray).cell? ⟨bo,o,none⟩=w.cell? ⟨bo,o,none⟩:=fun o=>cell?_of_block' (setRow_other w b bo _ hne) o
 obtain⟨E1,n1,len1,v1,cap1,cur1,g1,g2,g3,g4,g5,g6,g7,g8,g9⟩:=h.deepRel hl hbo
 have hcells:Ao (e.cs.set k (.isl E n len (cs.take off++xs++cs.drop (off+xs.length))))=true:=by
  rw [Cc,List.all_eq_true]at hpe ⊢
  intro c hc
  rcases List.mem_or_eq_of_mem_set hc with q | q
  ·exact hpe c q
  ·rw [q];rfl
 have hrel:AX (w.setRow b (cur.toList.take off++vs++cur.toList.drop (off+vs.length)).toArray) G ⟨id,e.row,e.cs.set k (.isl E n len (cs.take off++xs++cs.drop (off+xs.length))),true⟩:=by
  unfold AX
  rw [g1]
  refine⟨by rw [List.length_set];exact g2,v1,g3, .inr ⟨bo,cap1,cur1,g4,hbo,by rw [setRow_other w b bo _ hne];exact g5,g6,g7,g8,?_⟩⟩
  refine HT (Ak.mono t.keeps _ _ _ (fun _ _=>⟨rfl,rfl⟩) hcs g9) (fun u d hd _ hrd=>?_)
  rw [hk]at hd;injection hd with hd;subst hd
  simp only [Ad]at hrd ⊢
  exact hrd
 have hin:Em (w.setRow b (cur.toList.take off++vs++cur.toList.drop (off+vs.length)).toArray) G ⟨id,e.row,e.cs.set k (.isl E n len (cs.take off++xs++cs.drop (off+xs.length))),true⟩:=by
  intro j E2 n2 len2 cs2 hj
  simp only [List.getElem?_set]at hj
  split at hj
  ·rename_i hkj
   subst hkj
   split at hj
   ·injection hj with hj
    injection hj with q1 q2 q3 q4
    subst q1 q2 q3 q4
    refine⟨hpx,?_,bo,vo,hbo,by rw [hcs];exact hcell,hown⟩
    unfold AX
    exact⟨by rw [hlen];exact hcl,v,h1, .inr ⟨b,cap,_,e1,hb,hnew,e4,e5,by rw [hcur];exact e6,hrow'⟩⟩
   ·cases hj
  ·rename_i hkj
   obtain⟨k1,k2,b2,v2,k3,k4,k5⟩:=h.inner hl hj
   refine⟨k1,Cj t.keeps (fun _ _=>⟨rfl,rfl⟩) ⟨rfl,rfl⟩ (fun b3 hb3=>setRow_other w b b3 _ (fun q=>?_)) k2,b2,v2,k3,?_,k5⟩
   ·have:=h.inj _ _ b3 hb3 (by rw [q];exact hb)
    exact hkj (L8 this).1.symm
   ·rw [hbo]at k3;injection k3 with k3;subst k3
    rw [hcs];exact k4
 have hents:=t.ents h hl (fun _=>true) (fun d hd' _ hne'=>OD h d hd' (fun q2=>CD (h.deep d hd').1 k q2) (fun j _ q2=>hne' (L8 q2).2)) (by rw [g1];rfl) hrel hin hcells
 rw [HU,Mo]at hents
 exact t.kept h _ hents.1 hents.2.1 hents.2.2.1 hents.2.2.2
def Yu:C→Bool
 | .isl .. =>false
 | _=>true
theorem R.deepStored (h:R F st a w G) {id:Ah} {e:As} (hl:st.lookD id=some e) {b:Nat} (hb:G.blk id=some b)
 {off:Nat} {xs:List C} {vs:List Value} (hx:Ai w G xs vs) (hoff:off+xs.length≤e.cs.length) (hp:Ao xs=true) (hn:xs.all Yu=true):
 ∃ cur T,w.heap[b]? =some (.cells cur T (0,0))∧off+vs.length≤cur.size∧
   R F (st.setD id e.row (e.cs.take off++xs++e.cs.drop (off+xs.length))) a (w.setRow b (cur.toList.take off++vs++cur.toList.drop (off+vs.length)).toArray) G:=by
 obtain⟨hm,hid,hd,hmk,hpu,hpe,hi,E0,n0,len0,hr⟩:=h.deepRow hl
 obtain⟨E,n,len,v,cap,cur,g1,g2,g3,g4,g5,g6,g7,g8,g9⟩:=h.deepRel hl hb
 obtain⟨us,r1,r2⟩:=g9.list
 have hlx:=hx.length
 have hlu:=r1.length
 have hle:e.cs.length≤cur.size:=by rw [g2,g8];exact Nat.mul_le_mul_right _ g6
 have hpre:=FM g5 r2
 refine⟨cur,E,g5,by omega,?_⟩
 have t:=W7 h hb g5 (cur.toList.take off++vs++cur.toList.drop (off+vs.length)).toArray
 have hnew:=setRow_heap w b cur (cur.toList.take off++vs++cur.toList.drop (off+vs.length)).toArray E (0,0) g5
 have hsplit:(us.take off++vs++us.drop (off+vs.length))++cur.toList.drop us.length=(cur.toList.take off++vs++cur.toList.drop (off+vs.length)).toArray.toList :=by
  conv=>rhs;rw [←hpre]
  simp only [List.append_assoc]
  rw [List.take_append_of_le_length (by omega),List.drop_append_of_le_length (by omega)]
 have hrange:=By hnew hsplit
 have hl2:Ai w G (e.cs.take off++xs++e.cs.drop (off+xs.length)) (us.take off++vs++us.drop (off+vs.length)):=by
  rw [hlx]
  exact((r1.take off).append hx).append (r1.drop _)
 have hrow':=Ak.of_list (Ai.mono t.keeps _ _ (fun _ _=>⟨rfl,rfl⟩) hl2) hrange
 have hlen:(e.cs.take off++xs++e.cs.drop (off+xs.length)).length =e.cs.length:=by simp;omega
 have hcur:(cur.toList.take off++vs++cur.toList.drop (off+vs.length)).toArray.size =cur.size:=by simp;omega
 have hpx:Ao (e.cs.take off++xs++e.cs.drop (off+xs.length))=true:=by
  rw [Bk,Bk,IZ _ hpe,hp,I1 _ hpe];rfl
 have hrel:AX (w.setRow b (cur.toList.take off++vs++cur.toList.drop (off+vs.length)).toArray) G ⟨id,e.row,e.cs.take off++xs++e.cs.drop (off+xs.length),true⟩:=by
  unfold AX
  rw [g1]
  exact⟨by rw [hlen];exact g2,v,g3, .inr ⟨b,cap,_,g4,hb,hnew,g6,g7,by rw [hcur];exact g8,hrow'⟩⟩
 have hin:Em (w.setRow b (cur.toList.take off++vs++cur.toList.drop (off+vs.length)).toArray) G ⟨id,e.row,e.cs.take off++xs++e.cs.drop (off+xs.length),true⟩:=by
  intro j E2 n2 len2 cs2 hj
  simp only at hj
  have hj2:(j<off∨off+xs.length≤j)∧e.cs[j]? =some (.isl E2 n2 len2 cs2):=by
   rw [List.append_assoc]at hj
   have htl:(e.cs.take off).length =off:=by rw [List.length_take];omega
   by_cases q1:j<off
   ·rw [List.getElem?_append_left (by omega),List.getElem?_take,if_pos q1]at hj
    exact⟨.inl q1,hj⟩
   ·rw [List.getElem?_append_right (by omega),htl]at hj
    by_cases q2:j<off+xs.length
    ·rw [List.getElem?_append_left (by omega)]at hj
     have:=List.all_eq_true.1 hn _ (List.mem_of_getElem? hj)
     cases this
    ·rw [List.getElem?_append_right (by omega),List.getElem?_drop]at hj
     exact⟨.inr (by omega),by rw [←hj];congr 1;omega⟩
  obtain⟨k1,k2,b2,v2,k3,k4,k5⟩:=h.inner hl hj2.2
  rw [hb]at k3;injection k3 with k3;subst k3
  refine⟨k1,Cj t.keeps (fun _ _=>⟨rfl,rfl⟩) ⟨rfl,rfl⟩ (fun b3 hb3=>setRow_other w b b3 _ (fun q=>?_)) k2,b,v2,hb,?_,k5⟩
  ·exact CD hmk j (h.inj _ _ b hb (by rw [←q];exact hb3))
  ·have hjl:j<e.cs.length:=(List.getElem?_eq_some_iff.1 hj2.2).1
   simp only [World.cell?,hnew]
   simp only [World.cell?,g5]at k4
   have hold:cur.toList[j]? =some v2:=by simpa using k4
   have htl:(cur.toList.take off).length =off:=by rw [List.length_take];simp;omega
   have:(cur.toList.take off++vs++cur.toList.drop (off+vs.length))[j]? =some v2:=by
    rw [List.append_assoc]
    rcases hj2.1 with q1 | q1
    ·rw [List.getElem?_append_left (by omega),List.getElem?_take,if_pos q1];exact hold
    ·rw [List.getElem?_append_right (by omega),htl,List.getElem?_append_right (by omega),List.getElem?_drop]
     rw [←hold];congr 1;omega
   simpa using this
 have hents:=t.ents h hl (fun _=>true) (fun d hd' _ hne'=>OD h d hd' hne' (fun j _ q2=>CD hmk j q2.symm)) (by rw [g1];rfl) hrel hin hpx
 rw [HU,Mo]at hents
 exact t.kept h _ hents.1 hents.2.1 hents.2.2.1 hents.2.2.2
theorem Hi {id i:Ah} (h:Dm id i=true):CJ i=true:=by
 match i,h with
 | m::k::j,h=>
   simp only [Dm,Bool.and_eq_true]at h
   exact h.1
theorem ao {id i:Ah} (h:Dm id i=true): ∃ k,i=BH k id:=by
 match i,h with
 | m::k::j,h=>
   simp only [Dm,Bool.and_eq_true,beq_iff_eq]at h
   have h1:=Nat.eq_of_beq_eq_true h.1
   subst h1
   rw [h.2]
   exact⟨k,rfl⟩
def pD (r id i:Ah):Bool:=i==r||Dm id i
theorem dG (h:R F st a w G) {r id:Ah} (hr:CJ r=false) {d:As} (hd:d∈st.so) (h1:d.id ≠ r) (h2:d.id ≠ id):pD r id d.id=false∧(Ed d.id=true→ ∀ k,pD r id (BH k d.id)=false∧(fun _=>false:Ah→Bool) (BH k d.id)=false):=by
 refine⟨?_,fun _ k=>⟨?_,rfl⟩⟩
 ·unfold pD
  rw [show (d.id==r)=false by simpa using h1,Bool.false_or]
  cases hq:Dm id d.id with
  | false=>rfl
  | true=>
    have:=Hi hq
    rw [(h.deep d hd).1]at this;cases this
 ·unfold pD
  rw [show (BH k d.id==r)=false by simpa using (CD hr k).symm,Bool.false_or,Hh]
  simpa using h2
theorem R.absorbA (h:R F st a w G) {id r:Ah} {e er:As} (hl:st.lookD id=some e) (hr:st.look r=some er) {E:TypeId} {n len:Nat} (hrow:er.row=some (E,n,len)) (hpr:er.pu=true)
 {k b:Nat} {v:Value} (hb:G.blk id=some b) (hc:w.cell? ⟨b,k,none⟩=some v) (ho:G.own r=some v) (hk:k<e.cs.length):
 ∃ G',R F (st.killP (pD r id) (((st.so.filter (fun d=>d.id != r)).map (As.killP (pD r id))).map (setE id e.row (e.cs.set k (.isl E n len er.cs))))) a w G'∧G'.own id=G.own id∧G'.blk id=G.blk id∧ ∀ i,pD r id i=false→G'.blk i=G.blk i∧G'.own i=G.own i:=by
 obtain⟨hm,hid,hd,hmk,hpu,hpe,hi,E0,n0,len0,hr0⟩:=h.deepRow hl
 obtain⟨hmr,hidr⟩:=A0 hr
 have hndr:=En hr
 have hmkr:CJ r=false:=by rw [←hidr];exact(h.deep er hmr).1
 have hrid:r ≠ id:=fun q=>by rw [q,hd]at hndr;cases hndr
 have hpc:=h.pures er hmr hpr
 let G':Ay:=⟨fun i=>if i=r then none else if i=BH k id then G.blk r else G.blk i,fun i=>if i=r then none else if i=BH k id then G.own r else G.own i,fun b=>F.av b∨ ∃ i,(if i=r then none else if i=BH k id then G.blk r else G.blk i)=some b⟩
 have hag: ∀ i,pD r id i=false→G'.blk i=G.blk i∧G'.own i=G.own i:=by
  intro i hpi
  simp only [pD,Bool.or_eq_false_iff,beq_eq_false_iff_ne]at hpi
  have h2:i ≠ BH k id:=fun q=>by rw [q,Hh]at hpi;simp at hpi
  exact⟨by simp only [G',if_neg hpi.1,if_neg h2],by simp only [G',if_neg hpi.1,if_neg h2]⟩
 have t:Turn F (pD r id) (fun _=>false) G G' w w:=Hg h G' rfl hag (fun i b hib=>by
  simp only [G']at hib
  split at hib
  ·cases hib
  ·split at hib
   ·exact⟨r,hib⟩
   ·exact⟨i,hib⟩) (fun i j b hib hjb=>by
  simp only [G']at hib hjb
  split at hib
  ·cases hib
  ·rename_i q1
   split at hjb
   ·cases hjb
   ·rename_i q2
    split at hib<;>split at hjb
    ·simp_all
    ·exact absurd (h.inj _ _ b hjb hib) q2
    ·exact absurd (h.inj _ _ b hib hjb) q1
    ·exact h.inj _ _ b hib hjb)
 have hne:id ≠ BH k id:=CD hmk k
 have gid:G'.blk id=G.blk id∧G'.own id=G.own id:=⟨by simp only [G',if_neg hrid.symm,if_neg hne],by simp only [G',if_neg hrid.symm,if_neg hne]⟩
 have gk:G'.blk (BH k id)=G.blk r∧G'.own (BH k id)=G.own r:=by
  have:BH k id ≠ r:=(CD hmkr k).symm
  exact⟨by simp only [G',if_neg this,if_true],by simp only [G',if_neg this,if_true]⟩
 have gj: ∀ j,j ≠ k→G'.blk (BH j id)=G.blk (BH j id)∧G'.own (BH j id)=G.own (BH j id):=by
  intro j hj
  have h1:BH j id ≠ r:=(CD hmkr j).symm
  have h2:BH j id ≠ BH k id:=fun q=>hj (L8 q).1
  exact⟨by simp only [G',if_neg h1,if_neg h2],by simp only [G',if_neg h1,if_neg h2]⟩
 obtain⟨E1,n1,len1,v1,cap1,cur1,g1,g2,g3,g4,g5,g6,g7,g8,g9⟩:=h.deepRel hl hb
 have hcells:Ao (e.cs.set k (.isl E n len er.cs))=true:=by
  rw [Cc,List.all_eq_true]at hpe ⊢
  intro c hc
  rcases List.mem_or_eq_of_mem_set hc with q | q
  ·exact hpe c q
  ·rw [q];rfl
 have hno: ∀ cs:List C,Ao cs=true→HK (fun i=>BE i cs=true) G G':=fun cs hp i hi'=>absurd (show BE i cs=true from hi') (by rw [AG i cs hp];simp)
 have hrel:AX w G' ⟨id,e.row,e.cs.set k (.isl E n len er.cs),true⟩:=by
  unfold AX
  rw [g1]
  refine⟨by rw [List.length_set];exact g2,v1,by rw [gid.2];exact g3, .inr ⟨b,cap1,cur1,g4,by rw [gid.1];exact hb,g5,g6,g7,g8,?_⟩⟩
  refine HT (Ak.mono t.keeps _ _ _ (hno _ hpe) (fun _=>rfl) g9) (fun u d _ _ hrd=>?_)
  simp only [Ad]
  exact hrd.one
 have hin:Em w G' ⟨id,e.row,e.cs.set k (.isl E n len er.cs),true⟩:=by
  intro j E2 n2 len2 cs2 hj
  simp only [List.getElem?_set]at hj
  split at hj
  ·rename_i hkj
   subst hkj
   ·injection hj with hj
    injection hj with q1 q2 q3 q4
    subst q1 q2 q3 q4
    refine⟨hpc,?_,b,v,by rw [gid.1];exact hb,hc,by rw [gk.2];exact ho⟩
    have hE:=h.store er hmr
    unfold AX at hE ⊢
    rw [hrow]at hE
    obtain⟨c1,v2,c2,c3⟩:=hE
    refine⟨c1,v2,by rw [gk.2, ←hidr];exact c2,?_⟩
    rcases c3 with ⟨p,c3,c4,c5⟩ | ⟨b',cap,cur,e1,e2,e3,e4,e5,e6,e7⟩
    ·exact .inl ⟨p,c3,c4,by rw [gk.1, ←hidr];exact c5⟩
    ·exact .inr ⟨b',cap,cur,e1,by rw [gk.1, ←hidr];exact e2,e3,e4,e5,e6,Ak.mono t.keeps _ _ _ (hno _ hpc) (fun _=>rfl) e7⟩
  ·rename_i hkj
   obtain⟨k1,k2,b2,v2,k3,k4,k5⟩:=h.inner hl hj
   have gjj:=gj j (fun q=>hkj q.symm)
   exact⟨k1,Cj t.keeps (hno _ k1) gjj (fun _ _=>rfl) k2,b2,v2,by rw [gid.1];exact k3,k4,by rw [gjj.2];exact k5⟩
 have hents:=t.ents h hl (fun d=>d.id != r) (fun d hd' hf hne'=>by
  have:=dG h (id:=id) hmkr hd' (by simpa using hf) hne'
  exact⟨this.1,rfl,this.2⟩) (by rw [g1];rfl) hrel hin hcells
 exact⟨G',t.killed h _ hents.1 hents.2.1 hents.2.2.1 hents.2.2.2,gid.2,gid.1,hag⟩
theorem R.absorb (h:R F st a w G) {id r:Ah} {e er:As} (hl:st.lookD id=some e) (hr:st.look r=some er) {E:TypeId} {n len:Nat} (hrow:er.row=some (E,n,len)) (hpr:er.pu=true)
 {k b:Nat} {v:Value} (hb:G.blk id=some b) (hc:w.cell? ⟨b,k,none⟩=some v) (ho:G.own r=some v) (hk:k<e.cs.length):
 ∃ G',R F (st.killP (pD r id) (((st.so.filter (fun d=>d.id != r)).map (As.killP (pD r id))).map (setE id e.row (e.cs.set k (.isl E n len er.cs))))) a w G'∧G'.own id=G.own id:=by
 obtain⟨G',a,b,_⟩:=h.absorbA hl hr hrow hpr hb hc ho hk
 exact⟨G',a,b⟩
theorem R.extract (h:R F st a w G) {id r:Ah} {e:As} (hl:st.lookD id=some e) {k n len:Nat} {E:TypeId} {cs:List C} (hk:e.cs[k]? =some (.isl E n len cs)) (hmkr:CJ r=false) (hndr:Ed r=false):
 ∃ G',R F (st.killP (pD r id) (⟨r,some (E,n,len),cs,true⟩::((st.so.filter (fun d=>d.id != r)).map (As.killP (pD r id))).map (setE id e.row (e.cs.set k .any)))) a w G'∧
   ∃ b v,G.blk id=some b∧w.cell? ⟨b,k,none⟩=some v∧G'.own r=some v∧v.oneCell'=true:=by
 obtain⟨hm,hid,hd,hmk,hpu,hpe,hi,E0,n0,len0,hr0⟩:=h.deepRow hl
 obtain⟨hpc,hE,b,v,hb,hc,ho⟩:=h.inner hl hk
 have hrid:r ≠ id:=fun q=>by rw [q,hd]at hndr;cases hndr
 let G':Ay:=⟨fun i=>if i=r then G.blk (BH k id)else if i=BH k id then none else G.blk i,fun i=>if i=r then G.own (BH k id)else if i=BH k id then none else G.own i,fun b=>F.av b∨ ∃ i,(if i=r then G.blk (BH k id)else if i=BH k id then none else G.blk i)=some b⟩
 have hag: ∀ i,pD r id i=false→G'.blk i=G.blk i∧G'.own i=G.own i:=by
  intro i hpi
  simp only [pD,Bool.or_eq_false_iff,beq_eq_false_iff_ne]at hpi
  have h2:i ≠ BH k id:=fun q=>by rw [q,Hh]at hpi;simp at hpi
  exact⟨by simp only [G',if_neg hpi.1,if_neg h2],by simp only [G',if_neg hpi.1,if_neg h2]⟩
 have t:Turn F (pD r id) (fun _=>false) G G' w w:=Hg h G' rfl hag (fun i b hib=>by
  simp only [G']at hib
  split at hib
  ·exact⟨_,hib⟩
  ·split at hib
   ·cases hib
   ·exact⟨i,hib⟩) (fun i j b hib hjb=>by
  simp only [G']at hib hjb
  split at hib<;>split at hjb
  ·simp_all
  ·split at hjb
   ·cases hjb
   ·rename_i q2 q3;exact absurd (h.inj _ _ b hjb hib) q3
  ·split at hib
   ·cases hib
   ·rename_i q3;exact absurd (h.inj _ _ b hib hjb) q3
  ·split at hib
   ·cases hib
   ·split at hjb
    ·cases hjb
    ·exact h.inj _ _ b hib hjb)
 have hne:id ≠ BH k id:=CD hmk k
 have gid:G'.blk id=G.blk id∧G'.own id=G.own id:=⟨by simp only [G',if_neg hrid.symm,if_neg hne],by simp only [G',if_neg hrid.symm,if_neg hne]⟩
 have gr:G'.blk r=G.blk (BH k id)∧G'.own r=G.own (BH k id):=⟨by simp only [G',if_true],by simp only [G',if_true]⟩
 have gj: ∀ j,j ≠ k→G'.blk (BH j id)=G.blk (BH j id)∧G'.own (BH j id)=G.own (BH j id):=by
  intro j hj
  have h1:BH j id ≠ r:=(CD hmkr j).symm
  have h2:BH j id ≠ BH k id:=fun q=>hj (L8 q).1
  exact⟨by simp only [G',if_neg h1,if_neg h2],by simp only [G',if_neg h1,if_neg h2]⟩
 obtain⟨E1,n1,len1,v1,cap1,cur1,g1,g2,g3,g4,g5,g6,g7,g8,g9⟩:=h.deepRel hl hb
 have hcells:Ao (e.cs.set k .any)=true:=by
  rw [Cc,List.all_eq_true]at hpe ⊢
  intro c hc
  rcases List.mem_or_eq_of_mem_set hc with q | q
  ·exact hpe c q
  ·rw [q];rfl
 have hno: ∀ cs:List C,Ao cs=true→HK (fun i=>BE i cs=true) G G':=fun cs hp i hi'=>absurd (show BE i cs=true from hi') (by rw [AG i cs hp];simp)
 have hrel:AX w G' ⟨id,e.row,e.cs.set k .any,true⟩:=by
  unfold AX
  rw [g1]
  refine⟨by rw [List.length_set];exact g2,v1,by rw [gid.2];exact g3, .inr ⟨b,cap1,cur1,g4,by rw [gid.1];exact hb,g5,g6,g7,g8,?_⟩⟩
  refine HT (Ak.mono t.keeps _ _ _ (hno _ hpe) (fun _=>rfl) g9) (fun u d _ _ hrd=>?_)
  simp only [Ad]
  exact hrd.one
 have hin:Em w G' ⟨id,e.row,e.cs.set k .any,true⟩:=by
  intro j E2 n2 len2 cs2 hj
  simp only [List.getElem?_set]at hj
  split at hj
  ·split at hj
   ·cases hj
   ·cases hj
  ·rename_i hkj
   obtain⟨k1,k2,b2,v2,k3,k4,k5⟩:=h.inner hl hj
   have gjj:=gj j (fun q=>hkj q.symm)
   exact⟨k1,Cj t.keeps (hno _ k1) gjj (fun _ _=>rfl) k2,b2,v2,by rw [gid.1];exact k3,k4,by rw [gjj.2];exact k5⟩
 have hents:=t.ents h hl (fun d=>d.id != r) (fun d hd' hf hne'=>by
  have:=dG h (id:=id) hmkr hd' (by simpa using hf) hne'
  exact⟨this.1,rfl,this.2⟩) (by rw [g1];rfl) hrel hin hcells
 have hone:v.oneCell'=true:=by
  unfold AX at hE
  obtain⟨_,v2,c2,c3⟩:=hE
  rw [show (⟨BH k id,some (E,n,len),cs,true⟩:As).id =BH k id from rfl,ho]at c2
  injection c2 with c2;subst c2
  rcases c3 with ⟨p,rfl,_⟩ | ⟨b',cap,cur,rfl,_⟩<;>rfl
 refine⟨G',t.killed h _ ?_ ?_ ?_ ?_,b,v,hb,hc,by rw [gr.2];exact ho,hone⟩
 ·intro x hx
  rcases List.mem_cons.1 hx with rfl | hx
  ·unfold AX at hE ⊢
   obtain⟨c1,v2,c2,c3⟩:=hE
   refine⟨c1,v2,by rw [gr.2];exact c2,?_⟩
   rcases c3 with ⟨p,c3,c4,c5⟩ | ⟨b',cap,cur,e1,e2,e3,e4,e5,e6,e7⟩
   ·exact .inl ⟨p,c3,c4,by rw [gr.1];exact c5⟩
   ·exact .inr ⟨b',cap,cur,e1,by rw [gr.1];exact e2,e3,e4,e5,e6,Ak.mono t.keeps _ _ _ (hno _ hpc) (fun _=>rfl) e7⟩
  ·exact hents.1 x hx
 ·intro x hx
  rcases List.mem_cons.1 hx with rfl | hx
  ·exact Bi.triv hmkr hndr
  ·exact hents.2.1 x hx
 ·intro x hx
  rcases List.mem_cons.1 hx with rfl | hx
  ·exact fun _=>hpc
  ·exact hents.2.2.1 x hx
 ·rw [List.map_cons]
  refine List.nodup_cons.2 ⟨?_,hents.2.2.2⟩
  simp only [List.map_map,List.mem_map,List.mem_filter,Function.comp,VD,As.killP_id,not_exists,not_and]
  intro x hx q
  simp only [bne_iff_ne]at hx
  exact hx.2 q
theorem R.deepen' (h:R F st a w G) {r id:Ah} {er:As} (hr:st.look r=some er) {E:TypeId} {n len:Nat} (hrow:er.row=some (E,n,len)) (hpr:er.pu=true) (hn:er.cs.all Yu=true) (hd:Ed id=true) (hmk:CJ id=false):
 ∃ G',R F (st.killP (fun i=>i==r||(i==id||Dm id i)) (⟨id,some (E,n,len),er.cs,true⟩::((st.so.filter (fun d=>d.id != r&&d.id != id)).map (As.killP (fun i=>i==r||(i==id||Dm id i)))))) a w G'∧G'.own id=G.own r∧ ∀ i,i ≠ r→i ≠ id→G'.own i=G.own i:=by
 obtain⟨hmr,hidr⟩:=A0 hr
 have hndr:=En hr
 have hmkr:CJ r=false:=by rw [←hidr];exact(h.deep er hmr).1
 have hrid:r ≠ id:=fun q=>by rw [q,hd]at hndr;cases hndr
 have hpc:=h.pures er hmr hpr
 let G':Ay:=⟨fun i=>if i=r then none else if i=id then G.blk r else G.blk i,fun i=>if i=r then none else if i=id then G.own r else G.own i,fun b=>F.av b∨ ∃ i,(if i=r then none else if i=id then G.blk r else G.blk i)=some b⟩
 have t:Turn F (fun i=>i==r||(i==id||Dm id i)) (fun _=>false) G G' w w:=Hg h G' rfl (fun i hpi=>by
  simp only [Bool.or_eq_false_iff,beq_eq_false_iff_ne]at hpi
  exact⟨by simp only [G',if_neg hpi.1,if_neg hpi.2.1],by simp only [G',if_neg hpi.1,if_neg hpi.2.1]⟩) (fun i b hib=>by
  simp only [G']at hib
  split at hib
  ·cases hib
  ·split at hib
   ·exact⟨r,hib⟩
   ·exact⟨i,hib⟩) (fun i j b hib hjb=>by
  simp only [G']at hib hjb
  split at hib
  ·cases hib
  ·rename_i q1
   split at hjb
   ·cases hjb
   ·rename_i q2
    split at hib<;>split at hjb
    ·simp_all
    ·exact absurd (h.inj _ _ b hjb hib) q2
    ·exact absurd (h.inj _ _ b hib hjb) q1
    ·exact h.inj _ _ b hib hjb)
 have gid:G'.blk id=G.blk r∧G'.own id=G.own r:=⟨by simp only [G',if_neg hrid.symm,if_true],by simp only [G',if_neg hrid.symm,if_true]⟩
 have hno: ∀ cs:List C,Ao cs=true→HK (fun i=>BE i cs=true) G G':=fun cs hp i hi'=>absurd (show BE i cs=true from hi') (by rw [AG i cs hp];simp)
 have hp: ∀ d∈st.so,d.id ≠ r→d.id ≠ id→(fun i=>i==r||(i==id||Dm id i)) d.id=false∧(Ed d.id=true→ ∀ k,(fun i=>i==r||(i==id||Dm id i)) (BH k d.id)=false∧(fun _=>false:Ah→Bool) (BH k d.id)=false):=by
  intro d hd' h1 h2
  have hof:Dm id d.id=false:=by
   cases hq:Dm id d.id with
   | false=>rfl
   | true=>
     have:=Hi hq
     rw [(h.deep d hd').1]at this;cases this
  refine⟨by simp [h1,h2,hof],fun _ k=>⟨?_,rfl⟩⟩
  have e1:(BH k d.id==r)=false:=by simpa using (CD hmkr k).symm
  have e2:(BH k d.id==id)=false:=by simpa using (CD hmk k).symm
  have e3:Dm id (BH k d.id)=false:=by rw [Hh];simpa using h2
  simp only [e1,e2,e3,Bool.or_self]
 refine⟨G',t.killed h _ ?_ ?_ ?_ ?_,gid.2,fun i h1 h2=>by simp only [G',if_neg h1,if_neg h2]⟩
 ·intro x hx
  rcases List.mem_cons.1 hx with rfl | hx
  ·have hE:=h.store er hmr
   unfold AX at hE ⊢
   rw [hrow]at hE
   obtain⟨c1,v2,c2,c3⟩:=hE
   refine⟨c1,v2,by rw [gid.2, ←hidr];exact c2,?_⟩
   rcases c3 with ⟨p,c3,c4,c5⟩ | ⟨b',cap,cur,e1,e2,e3,e4,e5,e6,e7⟩
   ·exact .inl ⟨p,c3,c4,by rw [gid.1, ←hidr];exact c5⟩
   ·exact .inr ⟨b',cap,cur,e1,by rw [gid.1, ←hidr];exact e2,e3,e4,e5,e6,Ak.mono t.keeps _ _ _ (hno _ hpc) (fun _=>rfl) e7⟩
  ·simp only [List.mem_map,List.mem_filter,Bool.and_eq_true,bne_iff_ne]at hx
   obtain⟨y,⟨hy,h1,h2⟩,rfl⟩:=hx
   exact t.ent h hy (hp y hy h1 h2).1 rfl
 ·intro x hx
  rcases List.mem_cons.1 hx with rfl | hx
  ·refine⟨hmk,fun _=>⟨rfl,rfl,fun k E2 n2 len2 cs2 hk=>?_⟩⟩
   have:=List.all_eq_true.1 hn _ (List.mem_of_getElem? hk)
   cases this
  ·simp only [List.mem_map,List.mem_filter,Bool.and_eq_true,bne_iff_ne]at hx
   obtain⟨y,⟨hy,h1,h2⟩,rfl⟩:=hx
   exact t.deep h hy (hp y hy h1 h2).1 rfl (hp y hy h1 h2).2
 ·intro x hx
  rcases List.mem_cons.1 hx with rfl | hx
  ·exact fun _=>hpc
  ·simp only [List.mem_map,List.mem_filter]at hx
   obtain⟨y,⟨hy,_⟩,rfl⟩:=hx
   exact Lr (h.pures y hy)
 ·rw [List.map_cons]
  refine List.nodup_cons.2 ⟨?_,?_⟩
  ·simp only [List.map_map,List.mem_map,List.mem_filter,Function.comp,As.killP_id,not_exists,not_and,Bool.and_eq_true,bne_iff_ne]
   intro x hx q
   exact hx.2.2 q
  ·simp only [List.map_map,Function.comp_def,As.killP_id]
   exact List.Sublist.nodup (List.Sublist.map (fun d:As=>d.id) List.filter_sublist) h.nodup
theorem R.deepen (h:R F st a w G) {r id:Ah} {er:As} (hr:st.look r=some er) {E:TypeId} {n len:Nat} (hrow:er.row=some (E,n,len)) (hpr:er.pu=true) (hn:er.cs.all Yu=true) (hd:Ed id=true) (hmk:CJ id=false):
 ∃ G',R F (st.killP (fun i=>i==r||(i==id||Dm id i)) (⟨id,some (E,n,len),er.cs,true⟩::((st.so.filter (fun d=>d.id != r&&d.id != id)).map (As.killP (fun i=>i==r||(i==id||Dm id i)))))) a w G'∧G'.own id=G.own r:=by
 obtain⟨G',q1,q2,_⟩:=h.deepen' hr hrow hpr hn hd hmk
 exact⟨G',q1,q2⟩
theorem dH (h:R F st a w G) (id:Ah) (nb:Option Nat) (nv:Option Value) (ho:JR w w') (hs:w.heap.size≤w'.heap.size) (hblk: ∀ b,b<w.heap.size→(G.blk id ≠ some b)→w'.heap[b]? =w.heap[b]?)
 (hext: ∀ b,b<F.w0.heap.size→ ¬F.old b→w'.heap[b]? =w.heap[b]?)
 (hn: ∀ b,nb=some b→(w.heap.size≤b∨(G.blk id=some b∧BX w w' b))∧b<w'.heap.size):Turn F (· ==id) (· ==id) G (BS F G id nb nv) w w' where
 agree:=fun i hi=>by
  have:i ≠ id:=by simpa using hi
  simp [BS,this]
 same:=fun i b hi hb=>hblk b (h.lt i b hb) (fun q=>by
  have:=h.inj i id b hb q
  rw [this]at hi;simp at hi)
 keeps:=h.keeps id nb nv hs hblk (fun b hb=>(hn b hb).1)
 outer:=ho
 ext:=hext
 wr:=fun b=>Iff.rfl
 inj:=by
  intro i j b hi hj
  simp only [BS]at hi hj
  split at hi<;>split at hj
  ·simp_all
  ·rename_i q1 q2
   rcases (hn b hi).1 with q | q
   ·exact absurd (h.lt j b hj) (by omega)
   ·exact absurd (h.inj j id b hj q.1) q2
  ·rename_i q1 q2
   rcases (hn b hj).1 with q | q
   ·exact absurd (h.lt i b hi) (by omega)
   ·exact absurd (h.inj i id b hi q.1) q1
  ·exact h.inj i j b hi hj
 lt:=by
  intro i b hi
  simp only [BS]at hi
  split at hi
  ·exact(hn b hi).2
  ·exact Nat.lt_of_lt_of_le (h.lt i b hi) hs
 new:=by
  intro i b hi
  simp only [BS]at hi
  split at hi
  ·rcases (hn b hi).1 with q | q
   ·exact .inl (Nat.le_trans h.hsize q)
   ·exact h.new id b q.1
  ·exact h.new i b hi
theorem R.deepAppended (h:R F st a w G) {id:Ah} {e:As} (hl:st.lookD id=some e) {E n len m:Nat} (hrow:e.row=some (E,n,len))
 {v v':Value} {xs us:List Value} {cs:List C} (hob:v.ownBlock=G.blk id) (h1:Ai w G e.cs xs) (h2:Ai w G cs us) (hxc: ∀ b j u,G.blk id=some b→xs[j]? =some u→w.cell? ⟨b,j,none⟩=some u)
 (hold:w.ownsRow 0 E n v len xs) (hnew:w'.ownsRow 0 E n v' (len+m) (xs++us)) (hg:w.grownBy w' v.ownBlock) (hfr:v'.ownBlock=v.ownBlock∨ ∀ b,v'.ownBlock=some b→w.heap.size≤b)
 (hp:Ao cs=true) (hn:cs.all Yu=true):
 R F (st.killP (· ==id) ((st.so.map (As.killP (· ==id))).map (setE id (some (E,n,len+m)) (e.cs++cs)))) a w' (BS F G id v'.ownBlock (some v'))∧v'.oneCell'=true:=by
 obtain⟨hm,hid,hd,hmk,hpu,hpe,hi,_⟩:=h.deepRow hl
 have hblk: ∀ b,b<w.heap.size→G.blk id ≠ some b→w'.heap[b]? =w.heap[b]? :=fun b hb hne=>hg.block b hb (by rw [hob];exact fun q=>hne q.symm)
 have hnb: ∀ b,v'.ownBlock=some b→w.heap.size≤b∨(G.blk id=some b∧BX w w' b):=by
  intro b hb
  rcases hfr with q | q
  ·refine .inr ⟨by rw [←hob, ←q];exact hb,?_⟩
   have hb2:v.ownBlock=some b:=by rw [←q];exact hb
   intro cur T fz hc
   rcases hnew.2 with ⟨r,_⟩ | ⟨g,cap,cur',r,_,r2,_⟩
   ·rw [r]at hb;cases hb
   ·rw [r]at hb
    simp only [Value.ownBlock,Option.some.injEq]at hb
    subst hb
    rcases hold.2 with ⟨r3,_⟩ | ⟨g3,cap3,cur3,r3,_,r4,_⟩
    ·rw [r3]at hb2;cases hb2
    ·rw [r3]at hb2
     simp only [Value.ownBlock,Option.some.injEq]at hb2
     subst hb2
     rw [r4]at hc
     injection hc with hc
     injection hc with _ hc _
     subst hc
     exact⟨_,_,r2⟩
  ·exact .inl (q b hb)
 have hlt: ∀ b,v'.ownBlock=some b→b<w'.heap.size:=fun b hb=>(hnew.lt b hb).2
 have hone:v'.oneCell'=true:=by
  rcases hnew.2 with ⟨q,_⟩ | ⟨g,cap,cur,q,_⟩<;>rw [q]<;>rfl
 have t:=dH h id v'.ownBlock (some v') ⟨hg.os,hg.tape,hg.output⟩ hg.size hblk (fun b hb hold2=>by
  refine hblk b (Nat.lt_of_lt_of_le hb h.hsize) (fun q=>?_)
  rcases h.new id b q with q2 | q2
  ·omega
  ·exact hold2 q2) (fun b hb=>⟨hnb b hb,hlt b hb⟩)
 have hpx:Ao (e.cs++cs)=true:=by rw [Bk,hpe,hp];rfl
 have hl1:=h1.length
 have hl2:=h2.length
 have hln:=hnew.1
 have hno: ∀ cs:List C,Ao cs=true→HK (fun i=>BE i cs=true) G (BS F G id v'.ownBlock (some v')):=fun cs hp i hi'=>absurd (show BE i cs=true from hi') (by rw [AG i cs hp];simp)
 have gid:(BS F G id v'.ownBlock (some v')).blk id=v'.ownBlock∧(BS F G id v'.ownBlock (some v')).own id=some v':=by simp [BS]
 have gj: ∀ j,(BS F G id v'.ownBlock (some v')).blk (BH j id)=G.blk (BH j id)∧(BS F G id v'.ownBlock (some v')).own (BH j id)=G.own (BH j id):=fun j=>t.agree _ (by simpa using (CD hmk j).symm)
 have hrel:AX w' (BS F G id v'.ownBlock (some v')) ⟨id,some (E,n,len+m),e.cs++cs,true⟩:=by
  unfold AX
  refine⟨by simp at hln ⊢;omega,v',gid.2,?_⟩
  rcases hnew.2 with ⟨q,h0⟩ | ⟨g,cap,cur,q,_,q2,q3,q4,q5,q6⟩
  ·exact .inl ⟨none,q,h0,by rw [gid.1,q];rfl⟩
  ·refine .inr ⟨g,cap,cur,q,by rw [gid.1,q];rfl,q2,q3,q4,q5,?_⟩
   refine Ak.of_list (vs:=xs++us) (Ai.mono t.keeps _ _ (hno _ hpx) (h1.append h2)) ?_
   exact By q2 (rest:=cur.toList.drop ((len+m)*n)) (by rw [←q6,List.take_append_drop])
 have hin:Em w' (BS F G id v'.ownBlock (some v')) ⟨id,some (E,n,len+m),e.cs++cs,true⟩:=by
  intro j E2 n2 len2 cs2 hj
  simp only at hj
  have hj2:e.cs[j]? =some (.isl E2 n2 len2 cs2):=by
   by_cases q:j<e.cs.length
   ·rwa [List.getElem?_append_left q]at hj
   ·rw [List.getElem?_append_right (by omega)]at hj
    have:=List.all_eq_true.1 hn _ (List.mem_of_getElem? hj)
    cases this
  have hjl:j<e.cs.length:=(List.getElem?_eq_some_iff.1 hj2).1
  obtain⟨k1,k2,b2,v2,k3,k4,k5⟩:=h.inner hl hj2
  have hxj:xs[j]? =some v2:=by
   have hjx:j<xs.length:=by omega
   have:=hxc b2 j xs[j] k3 (List.getElem?_eq_getElem hjx)
   rw [k4]at this
   rw [List.getElem?_eq_getElem hjx,this]
  refine⟨k1,Cj t.keeps (hno _ k1) (gj j) (fun b hb=>hblk b (h.lt _ b hb) (fun q=>CD hmk j (h.inj _ _ b q hb))) k2,?_⟩
  rcases hnew.2 with ⟨q,h0⟩ | ⟨g,cap,cur,q,_,q2,q3,q4,q5,q6⟩
  ·have:n=n:=rfl
   rw [h0]at hln
   simp at hln
   have:xs=[]:=hln.1
   rw [this]at hxj;simp at hxj
  ·refine⟨g,v2,by rw [gid.1,q];rfl,?_,by rw [(gj j).2];exact k5⟩
   have hr:=By q2 (us:=xs++us) (rest:=cur.toList.drop ((len+m)*n)) (by rw [←q6,List.take_append_drop])
   have:=hr j v2 (by rw [List.getElem?_append_left (by omega)];exact hxj)
   simpa using this
 have hents:=t.ents h hl (fun _=>true) (fun d hd' _ hne'=>⟨by simpa using hne',by simpa using hne',fun _ k=>⟨by simpa using (CD hmk k).symm,by simpa using (CD hmk k).symm⟩⟩) rfl hrel hin hpx
 rw [HU]at hents
 exact⟨t.killed h _ hents.1 hents.2.1 hents.2.2.1 hents.2.2.2,hone⟩
def IB:C→C
 | .isl _ _ len cs=> .sl len cs
 | c=>c
def pF (id i:Ah):Bool:=i==id||Dm id i
def Nm (id:Ah) (len:Nat) (cells:List C):C→C
 | .osl i=>match i==id with
   | true=> .sl len cells
   | false=>Cz (pF id) (.osl i)
 | c=>Cz (pF id) c
def KT (id:Ah) (len:Nat) (cells:List C):V→V
 | .c x=> .c (Nm id len cells x)
 | .agg cs=> .agg (cs.map (Nm id len cells))
 | v=>BR (pF id) v
def As.frD (id:Ah) (len:Nat) (cells:List C) (e:As):As:=match e with
 | ⟨i,r,cs,true⟩=>⟨i,r,cs,true⟩
 | ⟨i,r,cs,false⟩=>⟨i,r,cs.map (Nm id len cells),false⟩
def St.frD (st:St) (id:Ah) (len:Nat) (cells:List C):St:={tm:=st.tm.map (KT id len cells),so:=(st.so.filter (fun d=>d.id != id)).map (As.frD id len cells),gh:=st.gh.map (KT id len cells),pre:=st.pre}
theorem P2 {id:Ah} {len:Nat} {cells:List C} {c:C} (h: ∀ i,c= .osl i→i ≠ id):Nm id len cells c=Cz (pF id) c:=by
 cases c<;>simp only [Nm]
 rename_i i
 rw [show (i==id)=false by simpa using h i rfl]
theorem aq {id:Ah} {len:Nat} {cells:List C}:Nm id len cells (.osl id)= .sl len cells:=by simp only [Nm,beq_self_eq_true]
theorem QM {id:Ah} {len:Nat} {cells:List C} (hk:B3 G G' w w') (ha: ∀ i,pF id i=false→G'.blk i=G.blk i∧G'.own i=G.own i) (ho: ∀ v,G.own id=some v→Ad w' G' (.sl len cells) v) {c:C} {v:Value} (h:Ad w G c v):Ad w' G' (Nm id len cells c) v:=by
 by_cases hc:c= .osl id
 ·subst hc
  rw [aq]
  simp only [Ad]at h
  exact ho v h.1
 ·rw [P2 (fun i q hi=>hc (by rw [q,hi]))]
  exact Ad.mono hk _ _ (fun i hi=>ha i (QJ hi)) (QL h)
theorem W8 {id:Ah} {len:Nat} {cells:List C} (hk:B3 G G' w w') (ha: ∀ i,pF id i=false→G'.blk i=G.blk i∧G'.own i=G.own i) (ho: ∀ v,G.own id=some v→Ad w' G' (.sl len cells) v): ∀ {cs:List C} {vs:List Value},Ai w G cs vs→Ai w' G' (cs.map (Nm id len cells)) vs
 | [],[],_=>by simp [Ai]
 | [],_::_,h=>by simp [Ai]at h
 | _::_,[],h=>by simp [Ai]at h
 | c::cs,v::vs,h=>by
   simp only [Ai,List.map_cons]at h ⊢
   exact⟨QM hk ha ho h.1,W8 hk ha ho h.2⟩
theorem W9 {id:Ah} {len:Nat} {cells:List C} (hk:B3 G G' w w') (ha: ∀ i,pF id i=false→G'.blk i=G.blk i∧G'.own i=G.own i) (ho: ∀ v,G.own id=some v→Ad w' G' (.sl len cells) v) {x:V} {v:Value} (h:Ab w G x v):Ab w' G' (KT id len cells x) v:=by
 cases x with
 | c x=>simp only [KT,Ab]at h ⊢;exact QM hk ha ho h
 | agg cs=>
   simp only [KT,Ab]at h ⊢
   obtain⟨arr,e,h⟩:=h
   exact⟨arr,e,W8 hk ha ho h⟩
 | tup vs=>exact Ab.mono hk _ _ (fun i hi=>ha i (He hi)) (Hf h)
 | g b x=>exact Ab.mono hk _ _ (fun i hi=>ha i (He hi)) (Hf h)
 | undef=>exact Ab.mono hk _ _ (fun i hi=>ha i (He hi)) (Hf h)
theorem Uq {id:Ah} {len:Nat} {cells:List C} (hk:B3 G G' w w') (ha: ∀ i,pF id i=false→G'.blk i=G.blk i∧G'.own i=G.own i) (ho: ∀ v,G.own id=some v→Ad w' G' (.sl len cells) v): ∀ {xs:List V} {vs:List Value},Ap w G xs vs→Ap w' G' (xs.map (KT id len cells)) vs
 | [],vs,h=>by simpa [Ap] using h
 | x::xs,vs,h=>by
   simp only [Ap,List.map_cons]at h ⊢
   obtain⟨v,r,e,h1,h2⟩:=h
   exact⟨v,r,e,W9 hk ha ho h1,Uq hk ha ho h2⟩
theorem Ls {id:Ah} {len:Nat} {cells:List C} (hk:B3 G G' w w') (ha: ∀ i,pF id i=false→G'.blk i=G.blk i∧G'.own i=G.own i) (ho: ∀ v,G.own id=some v→Ad w' G' (.sl len cells) v): ∀ {cs:List C} {b o:Nat},(∀ o,w'.cell? ⟨b,o,none⟩=w.cell? ⟨b,o,none⟩)→Ak w G cs b o→Ak w' G' (cs.map (Nm id len cells)) b o
 | [],_,_,_,_=>by simp only [List.map_nil,Ak]
 | c::cs,b,o,hc,h=>by
   simp only [Ak,List.map_cons]at h ⊢
   obtain⟨⟨v,h1,h2⟩,h3⟩:=h
   exact⟨⟨v,by rw [hc];exact h1,QM hk ha ho h2⟩,Ls hk ha ho hc h3⟩
theorem gw {f:C→C}: ∀ {cs:List C} {b o:Nat},(∀ k c,cs[k]? =some c→ ∃ v,w.cell? ⟨b,o+k,none⟩=some v∧Ad w G (f c) v)→Ak w G (cs.map f) b o
 | [],_,_,_=>by simp only [List.map_nil,Ak]
 | c::cs,b,o,h=>by
   simp only [Ak,List.map_cons]
   refine⟨by simpa using h 0 c (by simp),gw (fun k c' hc=>?_)⟩
   have:=h (k+1) c' (by simpa using hc)
   rw [show o+1+k=o+(k+1) by omega];exact this
theorem R.freezeD (h:R F st a w G) {id:Ah} {e:As} (hl:st.lookD id=some e) {E:TypeId} {n len:Nat} (hrow:e.row=some (E,n,len)) {cells:List C} (hcs:e.cs.map IB=cells): ∃ G',R F (st.frD id len cells) a w G':=by
 subst hcs
 obtain⟨hm,hid,hd,hmk,hpu,hpe,hi,_⟩:=h.deepRow hl
 let G':Ay:=⟨fun i=>if pF id i=true then none else G.blk i,fun i=>if pF id i=true then none else G.own i,fun b=>F.av b∨ ∃ i,(if pF id i=true then none else G.blk i)=some b⟩
 have hag: ∀ i,pF id i=false→G'.blk i=G.blk i∧G'.own i=G.own i:=fun i hpi=>⟨by simp [G',hpi],by simp [G',hpi]⟩
 have t:Turn F (pF id) (fun _=>false) G G' w w:=Hg h G' rfl hag (fun i b hib=>by
  simp only [G']at hib
  split at hib
  ·cases hib
  ·exact⟨i,hib⟩) (fun i j b hib hjb=>by
  simp only [G']at hib hjb
  split at hib
  ·cases hib
  ·split at hjb
   ·cases hjb
   ·exact h.inj _ _ b hib hjb)
 have hno: ∀ cs:List C,Ao cs=true→HK (fun i=>BE i cs=true) G G':=fun cs hp i hi'=>absurd (show BE i cs=true from hi') (by rw [AG i cs hp];simp)
 have hnw: ∀ i b,pF id i=true→G.blk i=some b→ ¬G'.wr b:=by
  intro i b hp hb hw
  simp only [G']at hw
  rcases hw with q | ⟨j,q⟩
  ·rcases h.new i b hb with q2 | q2
   ·have:=h.avlt b q;omega
   ·exact h.avold b q2 q
  ·split at q
   ·cases q
   ·rename_i hj;exact hj (by rw [h.inj j i b q hb];exact hp)
 have hpid:pF id id=true:=by simp [pF]
 have hpmk: ∀ k,pF id (BH k id)=true:=fun k=>by simp [pF,Hh]
 have hcell: ∀ (b:Nat),G.blk id=some b→ ∀ k c,e.cs[k]? =some c→ ∀ v,w.cell? ⟨b,k,none⟩=some v→Ad w G c v→(IB c).pure =true∧Ad w G' (IB c) v:=by
  intro b hb k c hk v hv hr
  have hpc:c.pure=true:=by
   rw [Cc,List.all_eq_true]at hpe
   exact hpe c (List.mem_of_getElem? hk)
  by_cases hc: ∃ E n l cs,c= .isl E n l cs
  ·obtain⟨E2,n2,l2,cs2,rfl⟩:=hc
   obtain⟨k1,k2,b2,v2,k3,k4,k5⟩:=h.inner hl hk
   rw [hb]at k3;injection k3 with k3;subst k3
   rw [hv]at k4;injection k4 with k4;subst k4
   refine⟨rfl,?_⟩
   simp only [IB,Ad]
   unfold AX at k2
   obtain⟨c1,v2,c2,c3⟩:=k2
   rw [show (⟨BH k id,some (E2,n2,l2),cs2,true⟩:As).id =BH k id from rfl,k5]at c2
   injection c2 with c2;subst c2
   refine⟨k1,?_⟩
   rcases c3 with ⟨p,rfl,rfl,_⟩ | ⟨b',cap,cur,rfl,e2,e3,e4,e5,e6,e7⟩
   ·have:cs2=[]:=by
     cases hq:cs2 with
     | nil=>rfl
     | cons x xs=>rw [hq]at c1;simp at c1
    exact⟨p,0,rfl,Nat.le_refl _,by simp [maxLen],fun _=>this, .inl rfl⟩
   ·refine⟨_,cap,rfl,e4,e5,fun h0=>?_, .inr ⟨b',0,rfl,hnw _ b' (hpmk k) e2,h.lt _ b' e2,Ak.mono t.keeps _ _ _ (hno _ k1) (fun _=>rfl) e7⟩⟩
    rw [h0]at c1
    cases hq:cs2 with
    | nil=>rfl
    | cons x xs=>rw [hq]at c1;simp at c1
  ·have:IB c=c:=by
    cases c<;>first | rfl | exact absurd ⟨_,_,_,_,rfl⟩ hc
   rw [this]
   exact⟨hpc,Ad.mono t.keeps _ _ (fun i hi'=>absurd (show c.men i=true from hi') (by rw [FT i c hpc];simp)) hr⟩
 have ho: ∀ v,G.own id=some v→Ad w G' (.sl len (e.cs.map IB)) v:=by
  intro v hv
  have hE:=h.store e hm
  unfold AX at hE
  rw [hrow]at hE
  obtain⟨c1,v1,c2,c3⟩:=hE
  rw [hid,hv]at c2;injection c2 with c2;subst c2
  rcases c3 with ⟨p,rfl,rfl,c5⟩ | ⟨b,cap,cur,rfl,e2,e3,e4,e5,e6,e7⟩
  ·have:e.cs=[]:=by
    cases hq:e.cs with
    | nil=>rfl
    | cons x xs=>rw [hq]at c1;simp at c1
   rw [this]
   simp only [Ad]
   exact⟨rfl,p,0,rfl,Nat.le_refl _,by simp [maxLen],fun _=>rfl, .inl trivial⟩
  ·rw [hid]at e2
   obtain⟨vs,r1,r2⟩:=e7.list
   have hl1:=r1.length
   have hat: ∀ k c,e.cs[k]? =some c→ ∃ v,w.cell? ⟨b,k,none⟩=some v∧Ad w G c v:=by
    intro k c hk
    obtain⟨u,hu,hr⟩:=r1.get k c hk
    exact⟨u,by simpa using r2 k u hu,hr⟩
   have hpall:Ao (e.cs.map IB)=true:=by
    rw [Cc,List.all_eq_true]
    intro c hc
    obtain⟨d,hd,rfl⟩:=List.mem_map.1 hc
    obtain⟨k,hk,rfl⟩:=List.mem_iff_getElem.1 hd
    obtain⟨u,q1,q2⟩:=hat k _ (List.getElem?_eq_getElem hk)
    exact(hcell b e2 k _ (List.getElem?_eq_getElem hk) u q1 q2).1
   simp only [Ad]
   refine⟨hpall,_,cap,rfl,e4,e5,fun h0=>?_, .inr ⟨b,0,rfl,hnw id b hpid e2,h.lt id b e2,gw (fun k c hk=>?_)⟩⟩
   ·rw [h0]at c1
    cases hq:e.cs with
    | nil=>rfl
    | cons x xs=>rw [hq]at c1;simp at c1
   ·obtain⟨u,q1,q2⟩:=hat k c hk
    exact⟨u,by simpa using q1,(hcell b e2 k c hk u q1 q2).2⟩
 have hfid: ∀ d:As,(d.frD id len (e.cs.map IB)).id =d.id:=fun d=>by obtain⟨i,r,cs,_ | _⟩:=d<;>rfl
 have hpn: ∀ d∈st.so,d.id ≠ id→pF id d.id=false∧(Ed d.id=true→ ∀ k,pF id (BH k d.id)=false):=by
  intro d hd' h2
  refine⟨?_,fun _ k=>?_⟩
  ·unfold pF
   rw [show (d.id==id)=false by simpa using h2,Bool.false_or]
   cases hq:Dm id d.id with
   | false=>rfl
   | true=>
     have:=Hi hq
     rw [(h.deep d hd').1]at this;cases this
  ·unfold pF
   rw [show (BH k d.id==id)=false by simpa using (CD hmk k).symm,Bool.false_or,Hh]
   simpa using h2
 refine⟨G',t.rel h _ (by simp [St.frD]) (fun i=>?_) ?_ ?_ ?_ ?_ ?_⟩
 ·simp only [St.frD]
  rw [EE (by simp [KT,BR,V.menP])]
  exact W9 t.keeps hag ho (h.slots i)
 ·exact Uq t.keeps hag ho h.ghosts
 ·intro x hx
  simp only [St.frD,List.mem_map,List.mem_filter,bne_iff_ne]at hx
  obtain⟨d,⟨hd',hne⟩,rfl⟩:=hx
  have hE:=h.store d hd'
  have hgd:=hag d.id (hpn d hd' hne).1
  have hpd:=h.pures d hd'
  obtain⟨i,r,ds,pu⟩:=d
  cases pu with
  | true=>exact Cj t.keeps (hno _ (hpd rfl)) hgd (fun _ _=>rfl) hE
  | false=>
    unfold AX at hE ⊢
    cases r with
    | none=>
      obtain⟨b,h1,h2⟩:=hE
      refine⟨b,by rw [show (As.frD id len (e.cs.map IB) ⟨i,none,ds,false⟩).id =i from rfl,hgd.1];exact h1,?_⟩
      rcases h2 with ⟨kv,es,h2,h3⟩ | ⟨T,cur,h2,h3,h4⟩
      ·dsimp only [As.frD]at h2 ⊢
       rw [h2]
       exact .inl ⟨kv,es,by simp [Nm,Cz,C.menP],h3⟩
      ·exact .inr ⟨T,cur,h2,by simpa [As.frD] using h3,Ls t.keeps hag ho (fun _=>rfl) h4⟩
    | some q=>
      obtain⟨E',n',len'⟩:=q
      obtain⟨hl',v,h1,h2⟩:=hE
      refine⟨by simpa [As.frD] using hl',v,by rw [show (As.frD id len (e.cs.map IB) ⟨i,some (E',n',len'),ds,false⟩).id =i from rfl,hgd.2];exact h1,?_⟩
      rcases h2 with ⟨p,e1,e2,e3⟩ | ⟨b,cap,cur,e1,e2,e3,e4,e5,e6,e7⟩
      ·exact .inl ⟨p,e1,e2,by rw [show (As.frD id len (e.cs.map IB) ⟨i,some (E',n',len'),ds,false⟩).id =i from rfl,hgd.1];exact e3⟩
      ·exact .inr ⟨b,cap,cur,e1,by rw [show (As.frD id len (e.cs.map IB) ⟨i,some (E',n',len'),ds,false⟩).id =i from rfl,hgd.1];exact e2,e3,e4,e5,e6,Ls t.keeps hag ho (fun _=>rfl) e7⟩
 ·intro x hx
  simp only [St.frD,List.mem_map,List.mem_filter,bne_iff_ne]at hx
  obtain⟨d,⟨hd',hne⟩,rfl⟩:=hx
  have hD:=h.deep d hd'
  have hD2:Bi w G (d.frD id len (e.cs.map IB)):=by
   obtain⟨i,r,cs,pu⟩:=d
   cases pu with
   | true=>exact hD
   | false=>exact⟨hD.1,fun hq=>absurd (hD.2 hq).1 (by simp)⟩
  refine Bi.mono t.keeps (by rw [hfid];exact hag _ (hpn d hd' hne).1) (fun hq k=>?_) (fun _ _=>rfl) (fun _ _ _ _=>rfl) hD2
  rw [hfid]at hq ⊢
  exact hag _ ((hpn d hd' hne).2 hq k)
 ·intro x hx
  simp only [St.frD,List.mem_map,List.mem_filter]at hx
  obtain⟨d,⟨hd',_⟩,rfl⟩:=hx
  have:=h.pures d hd'
  obtain⟨i,r,cs,pu⟩:=d
  cases pu with
  | true=>exact this
  | false=>intro hq;cases hq
 ·simp only [St.frD,List.map_map,Function.comp_def,hfid]
  exact List.Sublist.nodup (List.Sublist.map (fun d:As=>d.id) List.filter_sublist) h.nodup
end
end Go.PL
namespace Go.PL
open Go Go.RowKit
inductive DS where
 | ld (E:TypeId) (n len:Nat) (cs:List C)
 | ix (E:TypeId) (n len:Nat) (cs:List C)
 | rd (E:TypeId) (n len:Nat) (cs:List C) (u:V)
 | ln (E:TypeId) (n len:Nat) (cs:List C)
 | st (E:TypeId) (n len ln:Nat) (cs cells:List C)
 | ps (cells:List C)
 | ab (cells:List C)
 | lx (E:TypeId) (n len:Nat) (cs:List C)
 | nw (t:Option (Nat×List C))
 | bs
 | aa (len:Nat) (cells:List C)
section
variable {F:Fr} {st:St} {a:Act} {w:World} {G:Ay}
theorem R.lookD_of (h:R F st a w G) {e:As} {id:Ah} (he:e∈st.so) (hid:e.id=id) (hd:Ed id=true):st.lookD id=some e:=by
 unfold St.lookD
 cases hf:st.so.find? (fun e=>e.id==id&&Ed e.id)with
 | none=>
   have:=List.find?_eq_none.1 hf e he
   simp [hid,hd]at this
 | some x=>
   have h1:=List.mem_of_find?_eq_some hf
   have h2:=List.find?_some hf
   simp only [Bool.and_eq_true,beq_iff_eq]at h2
   rw [h.uniq h1 he (h2.1.trans hid.symm)]
theorem R.look_of (h:R F st a w G) {e:As} {id:Ah} (he:e∈st.so) (hid:e.id=id) (hd:Ed id=false) (hr:e.row.isSome=true):st.look id=some e:=by
 have hM:e.isM=false:=by
  unfold As.isM
  cases q:e.row with
  | none=>rw [q]at hr;cases hr
  | some _=>rfl
 unfold St.look
 cases hf:st.so.find? (fun e=>e.id==id&& !(e.isM||Ed e.id))with
 | none=>
   have:=List.find?_eq_none.1 hf e he
   simp [hid,hd,hM]at this
 | some x=>
   have h1:=List.mem_of_find?_eq_some hf
   have h2:=List.find?_some hf
   simp only [Bool.and_eq_true,beq_iff_eq]at h2
   rw [h.uniq h1 he (h2.1.trans hid.symm)]
theorem R.reslot (h:R F st a w G) {d:Nat} {x:V} (hx:Ab w G x (a.tmps.getD d Go.undef)):R F (st.put (some d) x) a w G:={
 dfr:=h.dfr
 size:=by simp [St.put,h.size]
 slots:=fun i=>by
  simp only [St.put,List.getD_eq_getElem?_getD,List.getElem?_set]
  by_cases hi:d=i
  ·subst hi
   by_cases hl:d<st.tm.length
   ·rw [if_pos rfl,if_pos hl,Option.getD_some]
    exact hx
   ·rw [if_pos rfl,if_neg hl,Option.getD_none];simp only [Ab]
  ·rw [if_neg hi]
   have:=h.slots i
   simpa only [List.getD_eq_getElem?_getD] using this
 ghosts:=h.ghosts,store:=h.store,deep:=h.deep,pures:=h.pures,nodup:=h.nodup
 inj:=h.inj,lt:=h.lt,new:=h.new,wr:=h.wr,avlt:=h.avlt,inv:=h.inv,avold:=h.avold,os:=h.os,tape:=h.tape,output:=h.output,hsize:=h.hsize,ext:=h.ext}
end
section
variable {P:Program} {I:World→Prop} {o:Oper} {st st':St} {K:St→Prop} {F:Fr} {a:Act} {w:World} {G:Ay}
theorem Mp (h:R F st a w G) {x:Operand} (hl:AH (AI st true x).1):Ab w G (AI st true x).2 (a.eval x):=by
 obtain⟨h1,h2⟩:=Kx hl
 rw [←h2]
 exact h.arg rfl h1
def ni (P:Program) (st:St) (o:Oper) (E n len:Nat) (cs:List C):Option (List Prop×St):=match o.op with
 | .load T x=>match (AI st true x).2,Ir P T with
   | .c (.ptr id k),some (ag,n')=>match !ag&&Nat.beq n' 1,st.lookD id with
     | true,some e=>some ((AI st true x).1++[e.cs[k]? =some (.isl E n len cs)],st.put o.dst (.c (.osl (1000007::k::id))))
     | _,_=>none
   | _,_=>none
 | _=>none
theorem gx {E n len:Nat} {cs:List C} {l:List Prop} (h:ni P st o E n len cs=some (l,st')) (hl:AH l) (hK:K st'):Eg P I o st K:=by
 unfold ni at h
 split at h
 ·rename_i T x ho
  split at h
  ·rename_i id k ag n' hx ht
   split at h
   ·rename_i e hb he
    simp only [Option.some.injEq,Prod.mk.injEq]at h
    obtain⟨rfl,rfl⟩:=h
    obtain⟨q1,q2,_⟩:=Aj.1 hl
    intro F a w G Q hI hR
    have hxv:=Mp hR q1
    rw [hx]at hxv
    simp only [Ab,Ad]at hxv
    obtain⟨b,hb1,hv⟩:=hxv
    obtain⟨_,hE,b2,v,k3,k4,k5⟩:=hR.inner he q2
    rw [hb1]at k3;injection k3 with k3;subst k3
    simp only [Bool.and_eq_true,Bool.not_eq_true']at hb
    obtain⟨d,i,hu,hd,_⟩:=C8 ht
    have hone:v.oneCell'=true:=by
     unfold AX at hE
     obtain⟨_,v2,c2,c3⟩:=hE
     rw [show (⟨BH k id,some (E,n,len),cs,true⟩:As).id =BH k id from rfl,k5]at c2
     injection c2 with c2;subst c2
     rcases c3 with ⟨p,rfl,_⟩ | ⟨b',cap,cur,rfl,_⟩<;>rfl
    have hrun:(execOp a.eval o).run P w= .ok (.value v) w:=by
     simp [execOp,ho,hv,Ee hu (by rw [hd,hb.1]) k4]
    exact AM hrun ⟨_,G,hK,hR.put (by simp only [Ab,Ad];exact⟨k5,hone⟩)⟩
   ·cases h
  ·cases h
 ·cases h
def nj (P:Program) (st:St) (o:Oper) (E n len:Nat) (cs:List C):Option (List Prop×St):=match o.op with
 | .indexAddr t x y=>match (AI st true x).2,(AI st true y).2,CZ P t with
   | .c (.osl (m::k::id)), .c (.int _ i),some (_,n')=>match Nat.beq m 1000007&&Nat.beq n' n,st.lookD id with
     | true,some e=>some (((AI st true x).1++(AI st true y).1)++[e.cs[k]? =some (.isl E n len cs),0≤i∧i<(len:Int)],st.put o.dst (.c (.ptr (m::k::id) (i.toNat*n'))))
     | _,_=>none
   | _,_,_=>none
 | _=>none
theorem gy {E n len:Nat} {cs:List C} {l:List Prop} (h:nj P st o E n len cs=some (l,st')) (hl:AH l) (hK:K st'):Eg P I o st K:=by
 unfold nj at h
 split at h
 ·rename_i t x y ho
  split at h
  ·rename_i m k id ki i E' n' hx hy ht
   split at h
   ·rename_i e hb he
    simp only [Option.some.injEq,Prod.mk.injEq]at h
    obtain⟨rfl,rfl⟩:=h
    obtain⟨q1,q2,q3,_⟩:=Aj.1 hl
    obtain⟨q1,q1'⟩:=Aj.1 q1
    intro F a w G Q hI hR
    have hxv:=Mp hR q1
    have hyv:=Mp hR q1'
    rw [hx]at hxv
    rw [hy]at hyv
    simp only [Ab,Ad]at hxv hyv
    simp only [Bool.and_eq_true]at hb
    have hm:=Nat.eq_of_beq_eq_true hb.1
    subst hm
    obtain⟨_,hE,_⟩:=hR.inner he q2
    unfold AX at hE
    obtain⟨_,v2,c2,c3⟩:=hE
    rw [show (⟨BH k id,some (E,n,len),cs,true⟩:As).id =BH k id from rfl,show BH k id=1000007::k::id from rfl,hxv.1]at c2
    injection c2 with c2
    rcases c3 with ⟨p,_,c4,_⟩ | ⟨b',cap,cur,c3,e2,_⟩
    ·omega
    ·have hrun:(execOp a.eval o).run P w= .ok (.value (.pointer (some ⟨b',0+i.toNat*n',none⟩))) w:=by
      simp [execOp,ho,hyv,c2,c3,Dq ht b' 0 len cap ki i q3.1 q3.2 w]
     exact AM hrun ⟨_,G,hK,hR.put (by simp only [Ab,Ad];exact⟨b',e2,by rw [Nat.zero_add]⟩)⟩
   ·cases h
  ·cases h
 ·cases h
def nk (P:Program) (st:St) (o:Oper) (E n len:Nat) (cs:List C) (u:V):Option (List Prop×St):=match o.op with
 | .load T x=>match (AI st true x).2,Ir P T with
   | .c (.ptr (m::k::id) off),some (ag,n')=>match Nat.beq m 1000007&&(ag||Nat.blt 0 n'),st.lookD id with
     | true,some e=>some ((AI st true x).1++[e.cs[k]? =some (.isl E n len cs),off+n'≤cs.length∧toV ag off n' cs=u],st.put o.dst u)
     | _,_=>none
   | _,_=>none
 | _=>none
theorem gz {E n len:Nat} {cs:List C} {u:V} {l:List Prop} (h:nk P st o E n len cs u=some (l,st')) (hl:AH l) (hK:K st'):Eg P I o st K:=by
 unfold nk at h
 split at h
 ·rename_i T x ho
  split at h
  ·rename_i m k id off ag n' hx ht
   split at h
   ·rename_i e hb he
    simp only [Option.some.injEq,Prod.mk.injEq]at h
    obtain⟨rfl,rfl⟩:=h
    obtain⟨q1,q2,q3,_⟩:=Aj.1 hl
    intro F a w G Q hI hR
    have hxv:=Mp hR q1
    rw [hx]at hxv
    simp only [Ab,Ad]at hxv
    obtain⟨b,hb1,hv⟩:=hxv
    simp only [Bool.and_eq_true,Bool.or_eq_true,Nat.blt_eq]at hb
    have hm:=Nat.eq_of_beq_eq_true hb.1
    subst hm
    obtain⟨_,hE,_⟩:=hR.inner he q2
    obtain⟨cur,T',_,_,hrow⟩:=hE.row (fun q=>by cases q) hb1
    obtain⟨v,r1,r2⟩:=Qh (P:=P) hrow ht q3.1 hb.2
    have hrun:(execOp a.eval o).run P w= .ok (.value v) w:=by
     have:=r2 w (Cv.refl w)
     rw [Nat.zero_add]at this
     simp [execOp,ho,hv,this]
    exact AM hrun ⟨_,G,hK,hR.put (by rw [←q3.2];exact r1)⟩
   ·cases h
  ·cases h
 ·cases h
def nm (P:Program) (st:St) (o:Oper) (E n len:Nat) (cs:List C):Option (List Prop×St):=match o.op with
 | .call c=>match c.callee,c.args.toList,c.argTypes.toList with
   | .builtin .len,[x],[t]=>match (AI st true x).2 with
     | .c (.osl (m::k::id))=>match Nat.beq m 1000007&&DU P t,st.lookD id with
       | true,some e=>some ((AI st true x).1++[e.cs[k]? =some (.isl E n len cs)],st.put o.dst (.c (.int .i64 len)))
       | _,_=>none
     | _=>none
   | _,_,_=>none
 | _=>none
theorem gB {E n len:Nat} {cs:List C} {l:List Prop} (h:nm P st o E n len cs=some (l,st')) (hl:AH l) (hK:K st'):Eg P I o st K:=by
 unfold nm at h
 split at h
 ·rename_i c ho
  split at h
  ·rename_i x t h1 h2 h3
   split at h
   ·rename_i m k id hx
    split at h
    ·rename_i e hb he
     simp only [Option.some.injEq,Prod.mk.injEq]at h
     obtain⟨rfl,rfl⟩:=h
     obtain⟨q1,q2,_⟩:=Aj.1 hl
     intro F a w G Q hI hR
     have hxv:=Mp hR q1
     rw [hx]at hxv
     simp only [Ab,Ad]at hxv
     simp only [Bool.and_eq_true]at hb
     have hm:=Nat.eq_of_beq_eq_true hb.1
     subst hm
     obtain⟨el,hel⟩:=DW hb.2
     obtain⟨_,hE,_⟩:=hR.inner he q2
     unfold AX at hE
     obtain⟨_,v2,c2,c3⟩:=hE
     rw [show (⟨BH k id,some (E,n,len),cs,true⟩:As).id =BH k id from rfl,show BH k id=1000007::k::id from rfl,hxv.1]at c2
     injection c2 with c2
     have hsl: ∃ p cap,a.eval x= .slice p len cap:=by
      rcases c3 with ⟨p,c3,c4,_⟩ | ⟨b',cap,cur,c3,_⟩
      ·exact⟨p,0,by rw [c2,c3,c4]⟩
      ·exact⟨_,cap,by rw [c2,c3]⟩
     obtain⟨p,cap,hsl⟩:=hsl
     have ea:c.args= #[x]:=by apply Array.ext';simpa using h2
     have et:c.argTypes= #[t]:=by apply Array.ext';simpa using h3
     have hrun:(execOp a.eval o).run P w= .ok (.value (.int .i64 len)) w:=by
      simp [execOp,ho,resolve,h1,ea,et,invoke,builtin,Builtin.len_,Sem.run_bind,run_underlying hel,goInt,hsl]
     exact AM hrun ⟨_,G,hK,hR.put (by simp only [Ab,Ad])⟩
    ·cases h
   ·cases h
  ·cases h
 ·cases h
theorem Ds {T:TypeId} {ag:Bool} {n b off:Nat} {T':TypeId} {cur:Array Value} {v:Value} (ht:Ir P T=some (ag,n)) (hh:w.heap[b]? =some (.cells cur T' (0,0))) (hl:v.cells.toList.length=n) (hfit:off+v.cells.toList.length≤cur.size) (hone: ∀ u∈v.cells.toList,u.oneCell'=true):
 (Instr.storeAt T (.pointer (some ⟨b,off,none⟩)) v).run P w= .ok () (w.setRow b (cur.toList.take off++v.cells.toList++cur.toList.drop (off+v.cells.toList.length)).toArray):=by
 obtain⟨d,i,hu,hd,hi,hsz⟩:=C8 ht
 have hst:=run_storeCells_at P b off T' v.cells.toList 0 cur w hh (by simpa using hfit) hone
 simp only [Nat.add_zero]at hst
 simp [Instr.storeAt,Instr.sureAddr,storeVar,sizeOf,typeInfo,program,Sem.run,hi,Sem.run_bind,hst]
 simp at hl
 omega
theorem Es {w':World} {K:Act→World→Prop} {Q:Exit→Act→World→Prop} (hr:(execOp a.eval o).run P w= .ok .skip w') (h:K (a.put o.dst Go.undef) w'):o.wp P a w K Q:=by
 unfold Oper.wp Oper.upon;rw [hr];exact h
def Xa (len:Nat):Option (TypeId×Nat×Nat)→Option (TypeId×Nat×Nat)
 | some (E,n,_)=>some (E,n,len)
 | none=>none
def nq (P:Program) (st:St) (o:Oper) (E n len ln:Nat) (cs cells:List C):Option (List Prop×St):=match o.op with
 | .store T x y=>match o.dst,(AI st true x).2,(AI st true y).2.cells,Ir P T with
   | none, .c (.ptr (m::k::id) off),some xs,some (_,n')=>match Nat.beq m 1000007&&(Nat.beq xs.length n'&&Ao xs),st.lookD id with
     | true,some e=>some (((AI st true x).1++(AI st true y).1)++[e.cs[k]? =some (.isl E n len cs),off+n'≤cs.length∧e.cs.set k (.isl E n len (cs.take off++xs++cs.drop (off+xs.length)))=cells,Xa ln e.row=e.row],st.setD id (Xa ln e.row) cells)
     | _,_=>none
   | _,_,_,_=>none
 | _=>none
theorem gC {E n len ln:Nat} {cs cells:List C} {l:List Prop} (h:nq P st o E n len ln cs cells=some (l,st')) (hl:AH l) (hK:K st'):Eg P I o st K:=by
 unfold nq at h
 split at h
 ·rename_i T x y ho
  split at h
  ·rename_i m k id off xs ag n' hdst hx hy ht
   split at h
   ·rename_i e hb he
    simp only [Option.some.injEq,Prod.mk.injEq]at h
    obtain⟨rfl,rfl⟩:=h
    obtain⟨q1,q2,q3,q4,_⟩:=Aj.1 hl
    rw [q4]at hK
    obtain⟨q1,q1'⟩:=Aj.1 q1
    intro F a w G Q hI hR
    have hxv:=Mp hR q1
    have hyv:=Mp hR q1'
    rw [hx]at hxv
    simp only [Ab,Ad]at hxv
    obtain⟨b,hb1,hv⟩:=hxv
    simp only [Bool.and_eq_true]at hb
    have hm:=Nat.eq_of_beq_eq_true hb.1
    have hn:=Nat.eq_of_beq_eq_true hb.2.1
    subst hm
    have hc:=G4 hyv hy
    have hlc:=hc.length
    obtain⟨cur,T',r1,r2,r3⟩:=hR.innerStored he q2 (show G.blk (BH k id)=some b from hb1) (off:=off) hc (by omega) hb.2.2
    rw [q3.2]at r3
    have hs:=Ds (P:=P) ht r1 (by omega) r2 (Ai.one hc)
    generalize w.setRow b _=w1 at hs r3
    have hrun:(execOp a.eval o).run P w= .ok .skip w1:=by simp [execOp,ho,hv,hs]
    exact Es hrun (by rw [hdst];exact⟨_,G,hK,r3⟩)
   ·cases h
  ·cases h
 ·cases h
theorem YZ {x:V} {v:Value} (h:Ab w G x v):Ab w G x.weak v:=by
 cases x with
 | c c=>simp only [V.weak,Ab]at h ⊢;exact GO h
 | agg cs=>simp only [V.weak,Ab]at h ⊢;obtain⟨arr,e,h⟩:=h;exact⟨arr,e,Nh h⟩
 | tup _=>exact h
 | g _ _=>exact h
 | undef=>exact h
def nr (P:Program) (st:St) (o:Oper) (cells:List C):Option (List Prop×St):=match o.op with
 | .store T x y=>match o.dst,(AI st true x).2,(AI st true y).2.weak.cells,Ir P T with
   | none, .c (.ptr id off),some xs,some (_,n')=>match (Nat.beq xs.length n'&&Ao xs)&&xs.all Yu,st.lookD id with
     | true,some e=>some (((AI st true x).1++(AI st true y).1)++[off+n'≤e.cs.length∧e.cs.take off++xs++e.cs.drop (off+xs.length)=cells],st.setD id e.row cells)
     | _,_=>none
   | _,_,_,_=>none
 | _=>none
theorem gD {cells:List C} {l:List Prop} (h:nr P st o cells=some (l,st')) (hl:AH l) (hK:K st'):Eg P I o st K:=by
 unfold nr at h
 split at h
 ·rename_i T x y ho
  split at h
  ·rename_i id off xs ag n' hdst hx hy ht
   split at h
   ·rename_i e hb he
    simp only [Option.some.injEq,Prod.mk.injEq]at h
    obtain⟨rfl,rfl⟩:=h
    obtain⟨q1,q2,_⟩:=Aj.1 hl
    obtain⟨q1,q1'⟩:=Aj.1 q1
    intro F a w G Q hI hR
    have hxv:=Mp hR q1
    have hyv:=YZ (Mp hR q1')
    rw [hx]at hxv
    simp only [Ab,Ad]at hxv
    obtain⟨b,hb1,hv⟩:=hxv
    simp only [Bool.and_eq_true]at hb
    have hn:=Nat.eq_of_beq_eq_true hb.1.1
    have hc:=G4 hyv hy
    have hlc:=hc.length
    obtain⟨cur,T',r1,r2,r3⟩:=hR.deepStored he hb1 (off:=off) hc (by omega) hb.1.2 hb.2
    rw [q2.2]at r3
    have hs:=Ds (P:=P) ht r1 (by omega) r2 (Ai.one hc)
    generalize w.setRow b _=w1 at hs r3
    have hrun:(execOp a.eval o).run P w= .ok .skip w1:=by simp [execOp,ho,hv,hs]
    exact Es hrun (by rw [hdst];exact⟨_,G,hK,r3⟩)
   ·cases h
  ·cases h
 ·cases h
theorem bV {id:Ah} {row:Option (TypeId×Nat×Nat)} {c1 c2:List C} {p:Ah→Bool} (x:As):setE id row c2 ((setE id row c1 x).killP p)=setE id row c2 (x.killP p):=by
 by_cases h:x.id=id
 ·rw [DZ h,DZ (by rw [As.killP_id];exact h),DZ (by rw [As.killP_id];exact h)]
  simp only [As.killP_id,As.killP_pu]
 ·rw [EZ h]
def nt (P:Program) (st:St) (o:Oper) (cells:List C):Option (List Prop×St):=match o.op with
 | .store T x y=>match o.dst,(AI st true x).2,(AI st true y).2,Ir P T with
   | none, .c (.ptr id k), .c (.osl r),some (ag,n')=>match !ag&&Nat.beq n' 1,st.lookD id,st.look r with
     | true,some e,some er=>match er.row,er.pu with
       | some (E,n,len),true=>some (((AI st true x).1++(AI st true y).1)++[k<e.cs.length∧e.cs.set k (.isl E n len er.cs)=cells],st.killP (pD r id) (((st.so.filter (fun d=>d.id != r)).map (As.killP (pD r id))).map (setE id e.row cells)))
       | _,_=>none
     | _,_,_=>none
   | _,_,_,_=>none
 | _=>none
theorem gE {cells:List C} {l:List Prop} (h:nt P st o cells=some (l,st')) (hl:AH l) (hK:K st'):Eg P I o st K:=by
 unfold nt at h
 split at h
 ·rename_i T x y ho
  split at h
  ·rename_i id k r ag n' hdst hx hy ht
   split at h
   ·rename_i e er hb he her
    split at h
    ·rename_i E n len hrow hpu
     simp only [Option.some.injEq,Prod.mk.injEq]at h
     obtain⟨rfl,rfl⟩:=h
     obtain⟨q1,q2,_⟩:=Aj.1 hl
     obtain⟨q1,q1'⟩:=Aj.1 q1
     intro F a w G Q hI hR
     have hxv:=Mp hR q1
     have hyv:=Mp hR q1'
     rw [hx]at hxv
     rw [hy]at hyv
     simp only [Ab,Ad]at hxv hyv
     obtain⟨b,hb1,hv⟩:=hxv
     simp only [Bool.and_eq_true,Bool.not_eq_true']at hb
     have hn:=Nat.eq_of_beq_eq_true hb.2
     have hcl:(a.eval y).cells.toList =[a.eval y]:=by
      have:=hyv.2
      cases hq:a.eval y<;>rw [hq]at this<;>first | rfl | cases this
     have hc:Ai w G [C.any] (a.eval y).cells.toList :=by rw [hcl];simp only [Ai,Ad];exact⟨hyv.2,trivial⟩
     obtain⟨cur,T',r1,r2,r3⟩:=hR.deepStored he hb1 (off:=k) hc (by simp;omega) rfl rfl
     have hs:=Ds (P:=P) ht r1 (by rw [hcl];simp;omega) r2 (Ai.one hc)
     have hcell:(w.setRow b (cur.toList.take k++(a.eval y).cells.toList ++cur.toList.drop (k+(a.eval y).cells.toList.length)).toArray).cell? ⟨b,k,none⟩=some (a.eval y):=by
      have:=setRow_heap w b cur (cur.toList.take k++(a.eval y).cells.toList ++cur.toList.drop (k+(a.eval y).cells.toList.length)).toArray T' (0,0) r1
      simp only [World.cell?,this]
      have hkl:(cur.toList.take k).length =k:=by rw [List.length_take];simp;rw [hcl]at r2;simp at r2;omega
      have:(cur.toList.take k++(a.eval y).cells.toList ++cur.toList.drop (k+(a.eval y).cells.toList.length))[k]? =some (a.eval y):=by
       rw [List.append_assoc,List.getElem?_append_right (by omega),hkl,hcl]
       simp
      simpa using this
     generalize w.setRow b _=w1 at hs r3 hcell
     have hrun:(execOp a.eval o).run P w= .ok .skip w1:=by simp [execOp,ho,hv,hs]
     obtain⟨hm,hid,hd⟩:=Kz he
     obtain⟨hmr,hidr⟩:=A0 her
     have hndr:=En her
     have hrid:r ≠ id:=fun q=>by rw [q,hd]at hndr;cases hndr
     have hD:(st.setD id e.row (e.cs.take k++[C.any]++e.cs.drop (k+[C.any].length))).lookD id=some ⟨id,e.row,e.cs.take k++[C.any]++e.cs.drop (k+[C.any].length),e.pu⟩:=by
      refine r3.lookD_of ?_ rfl hd
      simp only [St.setD,List.mem_map]
      exact⟨e,hm,by rw [DZ hid,hid]⟩
     have hL:(st.setD id e.row (e.cs.take k++[C.any]++e.cs.drop (k+[C.any].length))).look r=some er:=by
      refine r3.look_of ?_ hidr hndr (by rw [hrow];rfl)
      simp only [St.setD,List.mem_map]
      exact⟨er,hmr,EZ (by rw [hidr];exact hrid)⟩
     have hk':k<(⟨id,e.row,e.cs.take k++[C.any]++e.cs.drop (k+[C.any].length),e.pu⟩:As).cs.length :=by simp;omega
     obtain⟨G',g1,_⟩:=r3.absorb hD hL hrow hpu hb1 hcell hyv.1 hk'
     suffices hfin:R F (st.killP (pD r id) (((st.so.filter (fun d=>d.id != r)).map (As.killP (pD r id))).map (setE id e.row cells))) a w1 G' from Es hrun (by rw [hdst];exact⟨_,G',hK,hfin⟩)
     have e1:(e.cs.take k++[C.any]++e.cs.drop (k+[C.any].length)).set k (.isl E n len er.cs)=cells:=by
      rw [←q2.2]
      apply List.ext_getElem?
      intro j
      simp only [List.getElem?_set]
      by_cases hj:k=j
      ·subst hj
       simp only [if_true]
       rw [if_pos (by simp;omega),if_pos q2.1]
      ·rw [if_neg hj,if_neg hj,List.append_assoc]
       have htl:(e.cs.take k).length =k:=by rw [List.length_take];omega
       by_cases hjk:j<k
       ·rw [List.getElem?_append_left (by omega),List.getElem?_take,if_pos hjk]
       ·rw [List.getElem?_append_right (by omega),htl,List.getElem?_append_right (by simp;omega),List.getElem?_drop]
        congr 1
        simp
        omega
     have e2:(((st.setD id e.row (e.cs.take k++[C.any]++e.cs.drop (k+[C.any].length))).so.filter (fun d=>d.id != r)).map (As.killP (pD r id))).map (setE id e.row cells)=((st.so.filter (fun d=>d.id != r)).map (As.killP (pD r id))).map (setE id e.row cells):=by
      simp only [St.setD]
      rw [List.filter_map]
      simp only [List.map_map]
      have:(fun d:As=>d.id != r) ∘ setE id e.row (e.cs.take k++[C.any]++e.cs.drop (k+[C.any].length))=fun d=>d.id != r:=by
       funext d;simp [VD]
      rw [this]
      apply List.map_congr_left
      intro d _
      exact bV d
     rw [e1]at g1
     have e3: ∀ so,(st.setD id e.row (e.cs.take k++[C.any]++e.cs.drop (k+[C.any].length))).killP (pD r id) so=st.killP (pD r id) so:=fun so=>rfl
     rw [show (⟨id,e.row,e.cs.take k++[C.any]++e.cs.drop (k+[C.any].length),e.pu⟩:As).row =e.row from rfl,e2,e3]at g1
     exact g1
    ·cases h
   ·cases h
  ·cases h
 ·cases h
def ny (P:Program) (st:St) (o:Oper) (E n len:Nat) (cs:List C):Option (List Prop×St):=match o.op with
 | .load T x=>match o.dst,(AI st true x).2,Ir P T with
   | some d, .c (.ptr id k),some (ag,n')=>match (!ag&&Nat.beq n' 1)&&(!CJ (d::st.pre)&& !Ed (d::st.pre)),st.lookD id with
     | true,some e=>some ((AI st true x).1++[e.cs[k]? =some (.isl E n len cs)],
      (st.killP (pD (d::st.pre) id) (⟨d::st.pre,some (E,n,len),cs,true⟩::((st.so.filter (fun x=>x.id != d::st.pre)).map (As.killP (pD (d::st.pre) id))).map (setE id e.row (e.cs.set k .any)))).put (some d) (.c (.osl (d::st.pre))))
     | _,_=>none
   | _,_,_=>none
 | _=>none
theorem gG {E n len:Nat} {cs:List C} {l:List Prop} (h:ny P st o E n len cs=some (l,st')) (hl:AH l) (hK:K st'):Eg P I o st K:=by
 unfold ny at h
 split at h
 ·rename_i T x ho
  split at h
  ·rename_i d id k ag n' hdst hx ht
   split at h
   ·rename_i e hb he
    simp only [Option.some.injEq,Prod.mk.injEq]at h
    obtain⟨rfl,rfl⟩:=h
    obtain⟨q1,q2,_⟩:=Aj.1 hl
    intro F a w G Q hI hR
    have hxv:=Mp hR q1
    rw [hx]at hxv
    simp only [Ab,Ad]at hxv
    obtain⟨b,hb1,hv⟩:=hxv
    simp only [Bool.and_eq_true,Bool.not_eq_true']at hb
    obtain⟨G',g1,b2,v,g2,g3,g4,g5⟩:=hR.extract he q2 (r:=d::st.pre) hb.2.1 hb.2.2
    rw [hb1]at g2;injection g2 with g2;subst g2
    obtain⟨dd,i,hu,hd,_⟩:=C8 ht
    have hrun:(execOp a.eval o).run P w= .ok (.value v) w:=by
     simp [execOp,ho,hv,Ee hu (by rw [hd,hb.1.1]) g3]
    refine AM hrun ⟨_,G',hK,?_⟩
    rw [hdst]
    exact R.put (d:=some d) g1 (show Ab w G' (V.c (C.osl (d::st.pre))) v by simp only [Ab,Ad];exact⟨g4,g5⟩)
   ·cases h
  ·cases h
 ·cases h
def nA (P:Program) (st:St) (o:Oper) (ln:Nat) (cells:List C):Option (List Prop×St):=match o.op with
 | .call c=>match o.dst,c.callee,c.args.toList,c.argTypes.toList with
   | some d, .builtin .append,[u,x],[t,t']=>match (AI st true u).2,(AI st true x).2,D8 P t with
     | .c (.osl id), .c (.osl q),some (E,n,by')=>match st.lookD id,st.look q with
       | some e,some eq=>match e.row,eq.row,eq.cs with
         | some (E0,n0,len),some (E1,n1,len1),[.osl r]=>match (t==t'&&(E0==E&&n0==n))&&(Nat.beq n 1&&(Nat.beq n1 1&&Nat.beq len1 1)),st.look r with
           | true,some er=>match er.row,er.pu with
             | some (E2,n2,len2),true=>some (((AI st true u).1++(AI st true x).1)++[e.cs++[.isl E2 n2 len2 er.cs]=cells,(len+1)*by'≤140737488355328∧len+1≤maxLen,len+1=ln],
              ((st.killP (· ==id) []).killP (pD r id) (((((st.so.map (As.killP (· ==id))).map (setE id (some (E,n,ln)) (e.cs++[.any]))).filter (fun d=>d.id != r)).map (As.killP (pD r id))).map (setE id (some (E,n,ln)) cells))).put (some d) (.c (.osl id)))
             | _,_=>none
           | _,_=>none
         | _,_,_=>none
       | _,_=>none
     | _,_,_=>none
   | _,_,_,_=>none
 | _=>none
theorem gH {ln:Nat} {cells:List C} {l:List Prop} (h:nA P st o ln cells=some (l,st')) (hl:AH l) (hK:K st'):Eg P I o st K:=by
 unfold nA at h
 split at h
 case h_2=>cases h
 rename_i c ho
 split at h
 case h_2=>cases h
 rename_i d u x t t' hdst hcal hargs htys
 split at h
 case h_2=>cases h
 rename_i id q E n by' hu hx hsel
 split at h
 case h_2=>cases h
 rename_i e eq he heq
 split at h
 case h_2=>cases h
 rename_i E0 n0 len E1 n1 len1 r hrow0 hrow1 hcs1
 split at h
 case h_2=>cases h
 rename_i er hb her
 split at h
 case h_2=>cases h
 rename_i E2 n2 len2 hrow hpu
 simp only [Option.some.injEq,Prod.mk.injEq]at h
 obtain⟨rfl,rfl⟩:=h
 obtain⟨q1,q2,q3,q4,_⟩:=Aj.1 hl
 subst q4
 obtain⟨q1,q1'⟩:=Aj.1 q1
 simp only [Bool.and_eq_true,beq_iff_eq]at hb
 obtain⟨⟨rfl,rfl,rfl⟩,hb1,hb2,hb3⟩:=hb
 have hn:=Nat.eq_of_beq_eq_true hb1
 have hn1:=Nat.eq_of_beq_eq_true hb2
 have hl1:=Nat.eq_of_beq_eq_true hb3
 subst hn hn1 hl1
 intro F a w G Q hI hR
 have huv:=Mp hR q1
 have hxv:=Mp hR q1'
 rw [hu]at huv
 rw [hx]at hxv
 simp only [Ab,Ad]at huv hxv
 obtain⟨hm,hid,hd⟩:=Kz he
 obtain⟨hmq,hidq⟩:=A0 heq
 obtain⟨hmr,hidr⟩:=A0 her
 have hndr:=En her
 have hrid:r ≠ id:=fun z=>by rw [z,hd]at hndr;cases hndr
 obtain⟨i,z,hty,hi,hz,hsz,hby,hzs⟩:=EG hsel
 have hEq:=hR.store eq hmq
 unfold AX at hEq
 rw [hrow1,hcs1]at hEq
 obtain⟨_,vq,c2,c3⟩:=hEq
 rw [hidq,hxv.1]at c2
 injection c2 with c2
 rcases c3 with ⟨p,_,c4,_⟩ | ⟨bq,capq,curq,c3,_,_,hcapq,_,_,c7⟩
 ·cases c4
 simp only [Ak]at c7
 obtain⟨⟨vr,hcr,hvr⟩,_⟩:=c7
 simp only [Ad]at hvr
 obtain⟨v,xs,k1,k2,k3,k4⟩:=EF hrow0 (hR.store e hm)
 rw [hid,huv.1]at k1
 injection k1 with k1
 have hus:Ai w G [C.any] [vr]:=by simp only [Ai,Ad];exact⟨hvr.2,trivial⟩
 have hnews: ∀ j u',[vr][j]? =some u'→w.cell? ((⟨bq,0,none⟩:Addr).add j)=some u':=by
  intro j u' hj
  cases j with
  | zero=>
    simp only [List.getElem?_cons_zero,Option.some.injEq]at hj
    subst hj
    simpa [Addr.add_mid] using hcr
  | succ j=>simp at hj
 have main: ∀ v0 v' w',(Builtin.append_ #[t,t] o.type #[a.eval u,a.eval x]).run P w= .ok v' w'→v0.ownBlock=G.blk id→(∀ b j u',G.blk id=some b→xs[j]? =some u'→w.cell? ⟨b,j,none⟩=some u')→w.ownsRow 0 E0 1 v0 len xs→w'.ownsRow 0 E0 1 v' (len+1) (xs++[vr])→w.grownBy w' v0.ownBlock→(v'.ownBlock=v0.ownBlock∨ ∀ b,v'.ownBlock=some b→w.heap.size≤b)→o.wp P a w (ah F K) Q:=by
  intro v0 v' w' hrun hob hxc hold hnew hg hfr
  obtain⟨g1,g2⟩:=hR.deepAppended he hrow0 hob k3 hus hxc hold hnew hg hfr rfl rfl
  have hD:=g1.lookD_of (e:=⟨id,some (E0,1,len+1),e.cs++[C.any],e.pu⟩) (id:=id) (by
   simp only [St.killP,List.map_map,List.mem_map,Function.comp]
   exact⟨e,hm,by rw [DZ (by rw [As.killP_id];exact hid),As.killP_id,As.killP_pu,hid]⟩) rfl hd
  have her':er.killP (· ==id)=er:=by
   obtain⟨i1,r1,cs1,pu1⟩:=er
   simp only at hpu;subst hpu;rfl
  have hL:=g1.look_of (e:=er) (id:=r) (by
   simp only [St.killP,List.map_map,List.mem_map,Function.comp]
   exact⟨er,hmr,by rw [her',EZ (by rw [hidr];exact hrid)]⟩) hidr hndr (by rw [hrow];rfl)
  have hlx:=k3.length
  obtain⟨g,cap,cur,n1,_,n2',n3,n4,n5,n6⟩: ∃ g cap cur,v'= .slice (some ⟨g,0,none⟩) (len+1) cap∧0≤g∧w'.heap[g]? =some (.cells cur E0 (0,0))∧len+1≤cap∧cap≤maxLen∧cur.size=cap*1∧cur.toList.take ((len+1)*1)=xs++[vr]:=by
   rcases hnew.2 with ⟨_,h0⟩ | h1
   ·omega
   ·exact h1
  have hcell:w'.cell? ⟨g,e.cs.length,none⟩=some vr:=by
   have hrg:=By n2' (us:=xs++[vr]) (rest:=cur.toList.drop ((len+1)*1)) (by rw [←n6,List.take_append_drop])
   have:=hrg e.cs.length vr (by rw [hlx,List.getElem?_append_right (Nat.le_refl _)];simp)
   simpa using this
  have hblk:(BS F G id v'.ownBlock (some v')).blk id=some g:=by simp [BS,n1,Value.ownBlock]
  have howr:(BS F G id v'.ownBlock (some v')).own r=some vr:=by simp [BS,hrid];exact hvr.1
  have hk':e.cs.length<(⟨id,some (E0,1,len+1),e.cs++[C.any],e.pu⟩:As).cs.length :=by simp
  obtain⟨G',g3,g4⟩:=g1.absorb hD hL hrow hpu hblk hcell howr hk'
  have e1:(e.cs++[C.any]).set e.cs.length (.isl E2 n2 len2 er.cs)=cells:=by
   rw [←q2,List.set_append_right _ _ (Nat.le_refl _)]
   simp
  rw [show (⟨id,some (E0,1,len+1),e.cs++[C.any],e.pu⟩:As).row =some (E0,1,len+1)from rfl,show (⟨id,some (E0,1,len+1),e.cs++[C.any],e.pu⟩:As).cs =e.cs++[C.any]from rfl,e1]at g3
  have ea:c.args= #[u,x]:=by apply Array.ext';simpa using hargs
  have et:c.argTypes= #[t,t]:=by apply Array.ext';simpa using htys
  have hrun2:(execOp a.eval o).run P w= .ok (.value v') w':=by
   simp [execOp,ho,resolve,hcal,ea,et,invoke,builtin,hrun]
  refine AM hrun2 ⟨_,G',hK,?_⟩
  rw [hdst]
  exact R.put (d:=some d) g3 (show Ab w' G' (V.c (C.osl id)) v' by simp only [Ab,Ad];exact⟨by rw [g4];simp [BS],g2⟩)
 have hbb:(len+1)*by'≤140737488355328:=q3.1
 rcases k4 with ⟨k4,k5⟩ | ⟨p,hvp,h0,hxs,k5⟩
 ·rw [hid]at k5
  have hxc: ∀ b j u',G.blk id=some b→xs[j]? =some u'→w.cell? ⟨b,j,none⟩=some u':=by
   intro b j u' hb' hj
   have:=k4.cells (g:=b) (by rw [k5];exact hb') j u' hj
   simpa [Addr.add_mid] using this
  obtain⟨v',w',hrun,hown,hg,hfr⟩:=Jz (P:=P) (w:=w) t o.type E0 i z 1 by' hty hi hz hsz hby hzs (by omega) v len xs k4 ⟨bq,0,none⟩ 1 capq [vr] (by simp) hnews (Ai.one hus) q3.2 hbb
  exact main v v' w' (by rw [k1,c2,c3];exact hrun) k5 hxc k4 hown hg hfr
 ·rw [hid]at k5
  subst h0 hxs
  obtain⟨v',w',hrun,hown,hg,hfr⟩:=JA (P:=P) (w:=w) t o.type E0 i z 1 by' hty hi hz hsz hby hzs (by omega) p ⟨bq,0,none⟩ 1 capq [vr] (by simp) hnews (by omega) (by omega) (by simpa using hbb)
  exact main (.slice none 0 0) v' w' (by rw [k1,c2,c3,hvp];exact hrun) k5.symm (fun b j u' _ hj=>by simp at hj) ⟨by simp, .inl ⟨rfl,rfl⟩⟩ (by simpa using hown) hg (.inr hfr)
end
end Go.PL
namespace Go.PL
open Go Go.RowKit
inductive Stp where
 | a
 | v (x:V)
 | c (r:V)
 | e (len:Nat) (cs:List C)
 | D (x:DS)
def dJ (s:Stp) (len:Nat) (cs:List C) (k:Nat→List C→List Prop→Option (List Prop×St)):Option (List Prop×St):=
 match s with
 | .e len' cs'=>k len' cs' [len=len'∧cs=cs']
 | _=>k len cs []
theorem Lt {s:Stp} {len:Nat} {cs:List C} {k:Nat→List C→List Prop→Option (List Prop×St)} {r:List Prop×St} (h:dJ s len cs k=some r):
 ∃ len' cs' l,k len' cs' l=some r∧(AH l→len=len'∧cs=cs'):=by
 cases s<;>simp only [dJ]at h<;>first
  | exact⟨_,_,_,h,fun q=>q.1⟩
  | exact⟨_,_,_,h,fun _=>⟨rfl,rfl⟩⟩
def Lu (id:Ah) (len:Nat):List As→Prop
 | []=>True
 | e::es=>match e.id==id with
   | true=>Xa len e.row=e.row∧Lu id len es
   | false=>Lu id len es
def St.setR (st:St) (id:Ah) (cs:List C) (q:Bool) (len:Nat):St:={st with so:=st.so.map fun e=>match e.id==id with
 | true=>⟨e.id,Xa len e.row,cs,e.pu&&q⟩
 | false=>e}
theorem aw {st:St} {id:Ah} {cs:List C} {q:Bool} {len:Nat} (h:Lu id len st.so):st.setR id cs q len=st.setCs id cs q:=by
 have: ∀ l:List As,Lu id len l→(l.map fun e=>match e.id==id with
  | true=>(⟨e.id,Xa len e.row,cs,e.pu&&q⟩:As)
  | false=>e)=l.map fun e=>if(e.id==id)=true then(⟨e.id,e.row,cs,e.pu&&q⟩:As)else e:=by
  intro l
  induction l with
  | nil=>intro _;rfl
  | cons e l ih=>
    intro h
    simp only [Lu]at h
    simp only [List.map_cons]
    cases hb:e.id==id with
    | true=>rw [hb]at h;simp only at h;rw [ih h.2,h.1];simp
    | false=>rw [hb]at h;simp only at h;rw [ih h];simp
 unfold St.setR St.setCs
 rw [this st.so h]
def Y0 (P:Program) (st:St) (s:Stp) (d:Option Nat) (T:TypeId) (l:List Prop) (x y:V):Option (List Prop×St):=
 match x,y.cells,Ir P T with
 | .c (.ptr id off),some cs,some (_,n)=>match st.look id with
   | some e=>match s with
     | .e len' cs'=>P1 (cs.length==n) (l++[off+n≤e.cs.length∧e.cs.take off++cs++e.cs.drop (off+cs.length)=cs',Lu id len' st.so],(st.setR id cs' (Ao cs) len').put d .undef)
     | _=>P1 (cs.length==n&&Nat.ble (off+n) e.cs.length) (l,(st.setCs id (e.cs.take off++cs++e.cs.drop (off+cs.length)) (Ao cs)).put d .undef)
   | none=>none
 | _,_,_=>none
theorem Mq {P:Program} {st st':St} {s:Stp} {d:Option Nat} {T:TypeId} {l l':List Prop} {x y:V} (h:Y0 P st s d T l x y=some (l',st')) (hl:AH l'):
 AH l∧(Fs P st T x y).1∧(Fs P st T x y).2.put d .undef =st':=by
 unfold Y0 at h
 unfold Fs
 split at h
 ·rename_i id off cs ag n h1 h2
  split at h
  ·rename_i e he
   split at h
   ·rename_i len cs'
    obtain⟨hb,hr⟩:=Bu h
    simp only [Prod.mk.injEq]at hr
    obtain⟨rfl,rfl⟩:=hr
    obtain⟨q1,q2,q3,_⟩:=Aj.1 hl
    simp only [h1,h2,he]
    exact⟨q1,⟨by simpa using hb,q2.1⟩,by rw [q2.2,aw q3]⟩
   ·obtain⟨hb,hr⟩:=Bu h
    simp only [Prod.mk.injEq]at hr
    obtain⟨rfl,rfl⟩:=hr
    simp only [Bool.and_eq_true,Nat.ble_eq,beq_iff_eq]at hb
    simp only [h1,h2,he]
    exact⟨hl,hb,trivial⟩
  ·cases h
 ·cases h
def j7 (st:St) (n:Nat):V→Option (List Prop×Nat×List C×Bool)
 | .c (.sl m cs)=>some ([cs.length=m*n],m,cs,true)
 | .c (.osl id)=>match st.look id with
   | some e=>match e.row with
     | some (_,n',m)=>P1 (n'==n) ([],m,e.cs,e.pu)
     | none=>none
   | none=>none
 | _=>none
theorem Y1 {st:St} {n:Nat} {x:V} {l:List Prop} {r:Nat×List C×Bool} (h:j7 st n x=some (l,r)) (hl:AH l):Mh st n x=some r:=by
 unfold j7 at h
 unfold Mh
 split at h
 ·simp only [Option.some.injEq,Prod.mk.injEq]at h
  obtain⟨rfl,rfl⟩:=h
  exact if_pos hl.1
 ·split at h
  ·rename_i h1
   split at h
   ·rename_i h2
    obtain⟨hb,hr⟩:=Bu h
    simp only [Prod.mk.injEq]at hr
    simp only [h1,h2]
    rw [if_pos (by simpa using hb)]
    exact congrArg some hr.2
   ·cases h
  ·cases h
 ·cases h
def VE (P:Program) (st:St) (s:Stp) (d:Nat) (t:TypeId) (l:List Prop) (u x:V):Option (List Prop×St):=
 match u,D8 P t with
 | .c (.osl id),some (E,n,by')=>match st.look id,j7 st n x with
   | some e,some (l2,m,cs,q)=>match e.row with
     | some (E',n',len)=>match E'==E&&n'==n&&Nat.blt 0 n with
       | true=>dJ s (len+m) (e.cs++cs) fun len' cs' l3=>
         some (l++(l2++(l3++[(len+m)*by'≤140737488355328∧len+m≤maxLen])),(st.new ⟨id,some (E,n,len'),cs',e.pu&&q⟩).put (some d) (.c (.osl id)))
       | false=>none
     | none=>none
   | _,_=>none
 | _,_=>none
theorem S9 {P:Program} {st st':St} {s:Stp} {d:Nat} {t:TypeId} {l l':List Prop} {u x:V} (h:VE P st s d t l u x=some (l',st')) (hl:AH l'):
 AH l∧(EY P st d t u x).1∧(EY P st d t u x).2=st':=by
 unfold VE at h
 unfold EY
 split at h
 ·rename_i id E n by' h1
  split at h
  ·rename_i e l2 m cs q h2 h3
   split at h
   ·rename_i E' n' len h4
    split at h
    ·rename_i hb
     obtain⟨len',cs',l3,hk,ht⟩:=Lt h
     simp only [Option.some.injEq,Prod.mk.injEq]at hk
     obtain⟨rfl,rfl⟩:=hk
     obtain⟨q1,q2⟩:=Aj.1 hl
     obtain⟨q2,q3⟩:=Aj.1 q2
     obtain⟨q3,q4,_⟩:=Aj.1 q3
     obtain⟨rfl,rfl⟩:=ht q3
     simp only [Bool.and_eq_true,beq_iff_eq,Nat.blt_eq]at hb
     simp only [h1,h2,Y1 h3 q2,h4]
     exact⟨q1,⟨hb.1.1,hb.1.2,hb.2,q4⟩,trivial⟩
    ·cases h
   ·cases h
  ·cases h
 ·cases h
def dK (P:Program) (st:St) (s:Stp) (d:Nat) (t:TypeId) (l:List Prop) (x y:V):Option (List Prop×St):=
 match x,y,s with
 | .c (.bsl id off len), .c (.bsl id2 off2 len2), .e len' cs'=>match CZ P t with
   | some (_,1)=>match st.look id,st.look id2 with
     | some e,some e2=>P1 (Nat.ble (off+Nat.min len2 len) e.cs.length&&Nat.ble (off2+Nat.min len2 len) e2.cs.length) (l++[e.cs.take off++(e2.cs.drop off2).take (Nat.min len2 len)++e.cs.drop (off+((e2.cs.drop off2).take (Nat.min len2 len)).length)=cs',Lu id len' st.so],
      (st.setR id cs' (Ao ((e2.cs.drop off2).take (Nat.min len2 len))) len').put (some d) (.c (.int .i64 (Nat.min len2 len:Nat))))
     | _,_=>none
   | _=>none
 | _,_,_=>none
theorem Xb {P:Program} {st st':St} {s:Stp} {d:Nat} {t:TypeId} {l l':List Prop} {x y:V} (h:dK P st s d t l x y=some (l',st')) (hl:AH l'):
 AH l∧(Om P st d t x y).1∧(Om P st d t x y).2=st':=by
 unfold dK at h
 unfold Om
 split at h
 ·rename_i id off len id2 off2 len2 len' cs'
  split at h
  ·rename_i E h0
   split at h
   ·rename_i e e2 h1 h2
    obtain⟨hb,hr⟩:=Bu h
    simp only [Prod.mk.injEq]at hr
    obtain⟨rfl,rfl⟩:=hr
    obtain⟨q1,q2,q3,_⟩:=Aj.1 hl
    simp only [Bool.and_eq_true,Nat.ble_eq]at hb
    simp only [h0,h1,h2]
    exact⟨q1,hb,by rw [q2,aw q3]⟩
   ·cases h
  ·cases h
 ·cases h
def dL (P:Program) (st:St) (s:Stp) (d:Nat) (t:TypeId) (p:List Prop) (l c:V):Option (List Prop×St):=
 match l,c,D8 P t with
 | .c (.int _ l), .c (.int _ c),some (E,n,by')=>match K0 P E with
   | some z=>match z.length==n&&Nat.blt 0 n with
     | true=>dJ s l.toNat (B0 z l.toNat) fun len' cs' l3=>some (p++(l3++[0≤l∧l≤c∧c*by'≤140737488355328∧c≤maxLen]),(st.new ⟨d::st.pre,some (E,n,len'),cs',true⟩).put (some d) (.c (.osl (d::st.pre))))
     | false=>none
   | none=>none
 | _,_,_=>none
theorem Xc {P:Program} {st st':St} {s:Stp} {d:Nat} {t:TypeId} {p l':List Prop} {l c:V} (h:dL P st s d t p l c=some (l',st')) (hl:AH l'):
 AH p∧(HQ P st d t l c).1∧(HQ P st d t l c).2=st':=by
 unfold dL at h
 unfold HQ
 split at h
 ·rename_i h1
  split at h
  ·rename_i h2
   split at h
   ·rename_i hb
    obtain⟨len',cs',l3,hk,ht⟩:=Lt h
    simp only [Option.some.injEq,Prod.mk.injEq]at hk
    obtain⟨rfl,rfl⟩:=hk
    obtain⟨q1,q2⟩:=Aj.1 hl
    obtain⟨q2,q3,_⟩:=Aj.1 q2
    obtain⟨rfl,rfl⟩:=ht q2
    simp only [Bool.and_eq_true,beq_iff_eq,Nat.blt_eq]at hb
    simp only [h1,h2]
    exact⟨q1,⟨q3.1,q3.2.1,q3.2.2.1,q3.2.2.2,hb.1,hb.2⟩,trivial⟩
   ·cases h
  ·cases h
 ·cases h
def Ja (st:St) (g:Bool) (ps:List (Nat×Operand)):List Prop×List (Nat×V):=
 match ps with
 | []=>([],[])
 | (i,x)::r=>((AI st g x).1++(Ja st g r).1,(i,(AI st g x).2)::(Ja st g r).2)
theorem Nn {st:St} {g:Bool}: ∀ {ps:List (Nat×Operand)},AH (Ja st g ps).1→(st.parts g ps).1∧(st.parts g ps).2=(Ja st g ps).2
 | [],_=>⟨trivial,rfl⟩
 | (i,x)::r,hl=>by
   obtain⟨h1,h2⟩:=Aj.1 hl
   have a:=Kx (st:=st) (g:=g) (x:=x) h1
   have b:=Nn (st:=st) (g:=g) (ps:=r) h2
   simp only [St.parts,Ja]
   exact⟨⟨a.1,b.1⟩,by rw [a.2,b.2]⟩
def j8 (P:Program) (st:St) (s:Stp) (d:Nat) (t:TypeId) (len:Nat) (ps:List (Nat×Operand)):Option (List Prop×St):=
 match D8 P t with
 | some (E,n,_)=>match K0 P E with
   | some z=>match G6 (fun i=>some (i*n,n)) (B0 z len) ((Ja st true ps).2.map Ol)with
     | some cs=>match z.length==n&&Nat.blt 0 n&&Nat.ble (len*n) (2 ^ 24)&&Ao cs with
       | true=>dJ s len cs fun len' cs' l3=>some ((Ja st true ps).1++l3,(st.new ⟨d::st.pre,some (E,n,len'),cs',true⟩).put (some d) (.c (.osl (d::st.pre))))
       | false=>none
     | none=>none
   | none=>none
 | none=>none
theorem Y2 {P:Program} {st st':St} {s:Stp} {d:Nat} {t:TypeId} {len:Nat} {ps:List (Nat×Operand)} {l':List Prop} (h:j8 P st s d t len ps=some (l',st')) (hl:AH l'):
 (Bh P st d t len ps).1∧(Bh P st d t len ps).2=st':=by
 unfold j8 at h
 unfold Bh
 split at h
 ·rename_i h1
  split at h
  ·rename_i h2
   split at h
   ·rename_i h3
    split at h
    ·rename_i hb
     obtain⟨len',cs',l3,hk,ht⟩:=Lt h
     simp only [Option.some.injEq,Prod.mk.injEq]at hk
     obtain⟨rfl,rfl⟩:=hk
     obtain⟨q1,q2⟩:=Aj.1 hl
     obtain⟨rfl,rfl⟩:=ht q2
     obtain⟨k1,k2⟩:=Nn q1
     simp only [Bool.and_eq_true,beq_iff_eq,Nat.blt_eq,Nat.ble_eq]at hb
     simp only [h1,h2,k2,h3,hb.2]
     exact⟨⟨k1,hb.1.1.1,hb.1.1.2,hb.1.2⟩,trivial⟩
    ·cases h
   ·cases h
  ·cases h
 ·cases h
def mb (P:Program) (st:St) (s:Stp) (o:Oper):Option (List Prop×St):=
 match o.op with
 | .store T x y=>Y0 P st s o.dst T ((AI st true x).1++(AI st true y).1) (AI st true x).2 (Pl st (AI st true x).2 (YG y (AI st true y).2))
 | op=>match o.dst with
   | none=>none
   | some d=>match op with
     | .alloc T=>match Qu P T with
       | some cs=>some ([],(st.new ⟨d::st.pre,none,cs,false⟩).put (some d) (.c (.ptr (d::st.pre) 0)))
       | none=>none
     | .box _ x=>match (AI st true x).2.cells with
       | some cs=>some ((AI st true x).1,(st.new ⟨d::st.pre,none,cs,false⟩).put (some d) (.c (.ptr (d::st.pre) 0)))
       | none=>none
     | .assign (.const (.slice none 0 0))=>match CZ P o.type with
       | some (E,n)=>some ([],(st.new ⟨d::st.pre,some (E,n,0),[],true⟩).put (some d) (.c (.osl (d::st.pre))))
       | none=>none
     | .buildSlice t len ps=>j8 P st s d t len ps.toList
     | .makeSlice t l c=>dL P st s d t ((AI st true l).1++(AI st true c).1) (AI st true l).2 (AI st true c).2
     | .call c=>match c.callee,c.args.toList,c.argTypes.toList with
       | .builtin .append,[u,x],[t,t']=>match t==t' with
         | true=>VE P st s d t ((AI st true u).1++(AI st true x).1) (AI st true u).2 (AI st true x).2
         | false=>none
       | .builtin .copy,[u,x],[t,_]=>dK P st s d t ((AI st true u).1++(AI st true x).1) (AI st true u).2 (AI st true x).2
       | _,_,_=>none
     | _=>none
theorem No {P:Program} {st st':St} {s:Stp} {o:Oper} {l:List Prop} (h:mb P st s o=some (l,st')) (hl:AH l):(PL.ef P st o).1∧(PL.ef P st o).2=st':=by
 have A: ∀ x,AH (AI st true x).1→(st.arg true x).1∧(st.arg true x).2=(AI st true x).2:=fun x hx=>Kx hx
 obtain⟨dst,op,ty,pos,aft,gd⟩:=o
 cases op<;>cases dst<;>simp only [mb]at h<;>simp only [PL.ef]<;>try (cases h;done)
 case store.none T x y=>
  have:=Mq h hl
  obtain⟨q1,q2⟩:=Aj.1 this.1
  obtain⟨k1,k2⟩:=A x q1
  obtain⟨k3,k4⟩:=A y q2
  rw [k2,k4]
  exact⟨⟨k1,k3,this.2.1⟩,this.2.2⟩
 case store.some T x y d=>
  have:=Mq h hl
  obtain⟨q1,q2⟩:=Aj.1 this.1
  obtain⟨k1,k2⟩:=A x q1
  obtain⟨k3,k4⟩:=A y q2
  rw [k2,k4]
  exact⟨⟨k1,k3,this.2.1⟩,this.2.2⟩
 case alloc.some T d=>
  split at h
  ·rename_i cs hz
   simp only [Option.some.injEq,Prod.mk.injEq]at h
   obtain⟨rfl,rfl⟩:=h
   simp only [hz];exact⟨trivial,trivial⟩
  ·cases h
 case box.some T x d=>
  split at h
  ·rename_i cs hz
   simp only [Option.some.injEq,Prod.mk.injEq]at h
   obtain⟨rfl,rfl⟩:=h
   obtain⟨k1,k2⟩:=A x hl
   simp only [k2,hz];exact⟨⟨k1,trivial⟩,trivial⟩
  ·cases h
 case assign.some x d=>
  split at h
  all_goals first
   | (split at h
      ·rename_i E n hE
       simp only [Option.some.injEq,Prod.mk.injEq]at h
       obtain⟨rfl,rfl⟩:=h
       simp_all
      ·cases h)
   | (rename_i q;simp_all;done)
   | (cases h;done)
   | simp_all
 case buildSlice.some t len ps d=>exact Y2 h hl
 case makeSlice.some t a b d=>
  have:=Xc h hl
  obtain⟨q1,q2⟩:=Aj.1 this.1
  obtain⟨k1,k2⟩:=A a q1
  obtain⟨k3,k4⟩:=A b q2
  rw [k2,k4]
  exact⟨⟨k1,k3,this.2.1⟩,this.2.2⟩
 case call.some c d=>
  split at h
  ·rename_i u x t t' h1 h2 h3
   split at h
   ·rename_i hb
    obtain rfl:t=t':=by simpa using hb
    have:=S9 h hl
    obtain⟨q1,q2⟩:=Aj.1 this.1
    obtain⟨k1,k2⟩:=A u q1
    obtain⟨k3,k4⟩:=A x q2
    simp only [h1,h2,h3]
    rw [k2,k4]
    exact⟨⟨k1,k3,trivial,this.2.1⟩,this.2.2⟩
   ·cases h
  ·rename_i u x t t' h1 h2 h3
   have:=Xb h hl
   obtain⟨q1,q2⟩:=Aj.1 this.1
   obtain⟨k1,k2⟩:=A u q1
   obtain⟨k3,k4⟩:=A x q2
   simp only [h1,h2,h3]
   rw [k2,k4]
   exact⟨⟨k1,k3,trivial,this.2.1⟩,this.2.2⟩
  ·cases h
def Stp.u:Stp→Option V
 | .v x=>some x
 | _=>none
def nB (P:Program) (st:St) (o:Oper) (t:Option (Nat×List C)):Option (List Prop×St):=match B2 o.op,mb P st (match t with
    | none=> .a
    | some (l,cs)=> .e l cs) o,o.dst with
 | .ef,some (l,st1),some d=>match st1.get d with
   | .c (.osl r)=>match st1.look r with
     | some er=>match er.row,er.pu with
       | some (E,n,len),true=>some (l++[er.cs.all Yu=true],(st1.killP (fun i=>i==r||(i==1000003::r||Dm (1000003::r) i)) (⟨1000003::r,some (E,n,len),er.cs,true⟩::((st1.so.filter (fun d=>d.id != r&&d.id != 1000003::r)).map (As.killP (fun i=>i==r||(i==1000003::r||Dm (1000003::r) i)))))).put (some d) (.c (.osl (1000003::r))))
       | _,_=>none
     | none=>none
   | _=>none
 | _,_,_=>none
theorem gI {P:Program} {I:World→Prop} {o:Oper} {st st':St} {K:St→Prop} {t:Option (Nat×List C)} {l:List Prop} (h:nB P st o t=some (l,st')) (hl:AH l) (hK:K st'):Eg P I o st K:=by
 unfold nB at h
 split at h
 case h_2=>cases h
 rename_i l1 st1 d hk hef hdst
 split at h
 case h_2=>cases h
 rename_i r hget
 split at h
 case h_2=>cases h
 rename_i er her
 split at h
 case h_2=>cases h
 rename_i E n len hrow hpu
 simp only [Option.some.injEq,Prod.mk.injEq]at h
 obtain⟨rfl,rfl⟩:=h
 obtain⟨q1,q2,_⟩:=Aj.1 hl
 intro F a w G Q hI hR
 obtain⟨h1,h2⟩:=No hef q1
 have hs:bH P F.I o st (fun s'=>s'=st1):=by
  unfold bH
  refine .inr ?_
  rw [hk]
  exact⟨h1,h2⟩
 refine Oper.wp_mono (fun a' w' ⟨s',G',hs',hR'⟩=>?_) (Kw hR hs)
 subst hs'
 obtain⟨G2,g1,g2⟩:=hR'.deepen her hrow hpu q2 (id:=1000003::r) rfl rfl
 have hv:=hR'.slots d
 rw [show s'.tm.getD d .undef = .c (.osl r)from hget]at hv
 simp only [Ab,Ad]at hv
 exact⟨_,G2,hK,g1.reslot (by simp only [Ab,Ad];exact⟨by rw [g2];exact hv.1,hv.2⟩)⟩
def nC (P:Program) (st:St) (o:Oper):Option (List Prop×St):=match o.op,o.dst with
 | .buildSlice t len ps,some d=>match D8 P t with
   | some (E,n,_)=>match K0 P E with
     | some z=>match G6 (fun i=>some (i*n,n)) (B0 z len) ((Ja st true ps.toList).2.map Ol)with
       | some cs=>match z.length==n&&Nat.blt 0 n&&Nat.ble (len*n) (2 ^ 24)with
         | true=>some ((Ja st true ps.toList).1,(st.new ⟨d::st.pre,some (E,n,len),cs,Ao cs⟩).put (some d) (.c (.osl (d::st.pre))))
         | false=>none
       | none=>none
     | none=>none
   | none=>none
 | _,_=>none
theorem bW {P:Program} {o:Oper} {st st':St} {l:List Prop} (h:nC P st o=some (l,st')) (hl:AH l):B2 o.op= .ef ∧(PL.ef P st o).1∧(PL.ef P st o).2=st':=by
 obtain⟨dst,op,ty,pos,aft,gd⟩:=o
 unfold nC at h
 simp only at h
 split at h
 case h_2=>cases h
 rename_i t len ps d
 refine⟨rfl,?_⟩
 simp only [PL.ef]
 unfold Bh
 split at h
 ·rename_i h1
  split at h
  ·rename_i h2
   split at h
   ·rename_i h3
    split at h
    ·rename_i hb
     simp only [Option.some.injEq,Prod.mk.injEq]at h
     obtain⟨rfl,rfl⟩:=h
     obtain⟨k1,k2⟩:=Nn hl
     simp only [Bool.and_eq_true,beq_iff_eq,Nat.blt_eq,Nat.ble_eq]at hb
     simp only [h1,h2,k2,h3]
     exact⟨⟨k1,hb.1.1,hb.1.2,hb.2⟩,trivial⟩
    ·cases h
   ·cases h
  ·cases h
 ·cases h
def dM (P:Program) (st:St) (o:Oper):DS→Option (List Prop×St)
 | .ld E n len cs=>ni P st o E n len cs
 | .ix E n len cs=>nj P st o E n len cs
 | .rd E n len cs u=>nk P st o E n len cs u
 | .ln E n len cs=>nm P st o E n len cs
 | .st E n len ln cs cells=>nq P st o E n len ln cs cells
 | .ps cells=>nr P st o cells
 | .ab cells=>nt P st o cells
 | .lx E n len cs=>ny P st o E n len cs
 | .nw t=>nB P st o t
 | .bs =>nC P st o
 | .aa ln cells=>nA P st o ln cells
theorem bX {P:Program} {I:World→Prop} {o:Oper} {st st':St} {K:St→Prop} {x:DS} {l:List Prop} (h:dM P st o x=some (l,st')) (hl:AH l) (hK:K st'):bH P I o st K:=by
 cases x<;>simp only [dM]at h
 case bs=>
  obtain⟨h1,h2,h3⟩:=bW h hl
  unfold bH
  refine .inr ?_
  rw [h1]
  exact⟨h2,by rw [h3];exact hK⟩
 all_goals refine .inl ?_
 ·exact gx h hl hK
 ·exact gy h hl hK
 ·exact gz h hl hK
 ·exact gB h hl hK
 ·exact gC h hl hK
 ·exact gD h hl hK
 ·exact gE h hl hK
 ·exact gG h hl hK
 ·exact gI h hl hK
 ·exact gH h hl hK
def Y3 (P:Program) (I:World→Prop) (dr:Bool) (ops:Array Oper) (o:Oper) (s:Stp) (st:St):Option (List Prop×St):=
 match o.guard with
 | none=>match B2 o.op with
   | .rd =>match jl P st true s.u o.op with
     | some (l,v)=>some (l,st.put o.dst v)
     | none=>none
   | .cut x=>match dr with
     | true=>match jl P st true s.u o.op with
       | some (l,v)=>some (l,st.put o.dst v)
       | none=>none
     | false=>match jl P (st.cutAt true x) true s.u o.op with
       | some (l,v)=>some (l,(st.cutAt true x).put o.dst v)
       | none=>none
   | .ef =>match dr with
     | true=>none
     | false=>mb P st s o
   | .call f xs=>match s with
     | .c r=>match BZ ((FY st true xs).2.map (Bn st))&&(r.flat||(!dr&&Nat.ble (Cx (FY st true xs).2).length 1&&(Cx (FY st true xs).2).all st.okFrz))with
       | true=>some ((FY st true xs).1++[CC P I f ((FY st true xs).2.map (Bn st)) (· =r)],match dr with
         | true=>st.put o.dst r
         | false=>st.after (Cx (FY st true xs).2) o.dst r)
       | false=>none
     | _=>none
   | .no =>none
 | some (j,want)=>match GD st ops j want with
   | some g=>match B2 o.op with
     | .rd =>match jl P st g s.u o.op with
       | some ([],v)=>some ([],st.put o.dst (.g g v))
       | some (l,v)=>some ([g=true→AH l],st.put o.dst (.g g v))
       | none=>none
     | .cut _=>match dr with
       | true=>match jl P st g s.u o.op with
         | some ([],v)=>some ([],st.put o.dst (.g g v))
         | some (l,v)=>some ([g=true→AH l],st.put o.dst (.g g v))
         | none=>none
       | false=>none
     | .call f xs=>match s with
       | .c r=>match BZ ((FY st g xs).2.map (Bn st))&&(r.flat||(!dr&&(Cx (FY st g xs).2).isEmpty))with
         | true=>some ([g=true→AH (FY st g xs).1∧CC P I f ((FY st g xs).2.map (Bn st)) (· =r)],st.put o.dst (.g g r))
         | false=>none
       | _=>none
     | .ef =>match dr with
       | true=>none
       | false=>match mb P st s o with
         | some (l,st')=>some (l++[g=true],st')
         | none=>none
     | _=>none
   | none=>none
def Xd (P:Program) (I:World→Prop) (dr:Bool) (ops:Array Oper) (o:Oper) (s:Stp) (st:St):Option (List Prop×St):=
 match s with
 | .D x=>match dr,o.guard with
   | false,none=>dM P st o x
   | _,_=>none
 | s=>Y3 P I dr ops o s st
def GF (P:Program) (I:World→Prop) (dr:Bool) (ops:Array Oper):List Oper→List Stp→St→Option (List Prop×St)
 | [],[],st=>some ([],st)
 | o::rest,s::ss,st=>match Xd P I dr ops o s st with
   | some (l,st')=>match GF P I dr ops rest ss st' with
     | some (l',st'')=>some (l++l',st'')
     | none=>none
   | none=>none
 | _,_,_=>none
theorem dN {st:St} {g:Bool} {x:Operand}:(st.arg g x).2=(AI st g x).2:=by
 unfold AI St.arg
 generalize st.ev x=e
 cases e<;>rfl
theorem Ur {st:St} {g:Bool}: ∀ {xs:List Operand},(st.args g xs).2=(FY st g xs).2
 | []=>rfl
 | x::xs=>by simp only [St.args,FY,dN,Ur (xs:=xs)]
theorem gJ {P:Program} {I:World→Prop} {ops:Array Oper} {o:Oper} {x:DS} {st st':St} {l:List Prop} {K:St→Prop} (h:Xd P I false ops o (.D x) st=some (l,st')) (hl:AH l) (hK:K st'):Uh P I ops o st K:=by
 simp only [Xd]at h
 split at h
 ·rename_i hg
  unfold Uh
  rw [hg]
  exact bX h hl hK
 ·cases h
theorem Xe {P:Program} {I:World→Prop} {ops:Array Oper} {o:Oper} {s:Stp} {st st':St} {l:List Prop} {K:St→Prop} (h:Xd P I false ops o s st=some (l,st')) (hl:AH l) (hK:K st'):Uh P I ops o st K:=by
 by_cases hD: ∃ x,s= .D x
 ·obtain⟨x,rfl⟩:=hD
  exact gJ h hl hK
 replace h:Y3 P I false ops o s st=some (l,st'):=by
  cases s<;>first | exact h | exact absurd ⟨_,rfl⟩ hD
 unfold Y3 at h
 unfold Uh
 split at h
 ·rename_i hg
  rw [hg]
  simp only
  unfold bH
  right
  split at h
  ·rename_i hk
   simp only [hk]
   split at h
   ·rename_i l v ho
    simp only [Option.some.injEq,Prod.mk.injEq]at h
    obtain⟨rfl,rfl⟩:=h
    obtain⟨h1,h2⟩:=Ky ho hl
    exact⟨h1,by rw [h2];exact hK⟩
   ·cases h
  ·rename_i x hk
   simp only [hk]
   dsimp only at h
   split at h
   ·rename_i l v ho
    simp only [Option.some.injEq,Prod.mk.injEq]at h
    obtain⟨rfl,rfl⟩:=h
    obtain⟨h1,h2⟩:=Ky ho hl
    exact⟨h1,by rw [h2];exact hK⟩
   ·cases h
  ·rename_i hk
   simp only [hk]
   obtain⟨h1,h2⟩:=No h hl
   exact⟨h1,by rw [h2];exact hK⟩
  ·rename_i f xs hk
   simp only [hk]
   split at h
   ·rename_i r
    split at h
    ·rename_i hb
     simp only [Option.some.injEq,Prod.mk.injEq]at h
     obtain⟨rfl,rfl⟩:=h
     obtain⟨q1,q2,_⟩:=Aj.1 hl
     obtain⟨k1,k2⟩:=Mn q1
     simp only [Bool.and_eq_true,Bool.or_eq_true,Bool.not_false,true_and,Nat.ble_eq,List.all_eq_true]at hb
     rw [k2]
     refine⟨k1,hb.1,_,q2,fun r' hr'=>?_⟩
     subst hr'
     exact⟨hb.2,hK⟩
    ·cases h
   ·cases h
  ·cases h
 ·rename_i j want hg
  rw [hg]
  simp only
  split at h
  ·rename_i g hq
   rw [hq]
   simp only
   unfold jN
   by_cases hef:B2 o.op= .ef
   ·left
    rw [hef]at h
    dsimp only at h
    split at h
    ·rename_i l1 st1 h1
     simp only [Option.some.injEq,Prod.mk.injEq]at h
     obtain⟨rfl,rfl⟩:=h
     obtain⟨q1,q2,_⟩:=Aj.1 hl
     refine⟨fun _=>?_,fun hf=>by rw [q2]at hf;cases hf⟩
     unfold bH
     right
     simp only [hef]
     obtain⟨k1,k2⟩:=No h1 q1
     exact⟨k1,by rw [k2];exact hK⟩
    ·cases h
   right
   split at h
   ·rename_i hk
    simp only [hk]
    split at h
    ·rename_i v ho
     simp only [Option.some.injEq,Prod.mk.injEq]at h
     obtain⟨rfl,rfl⟩:=h
     exact⟨v,fun _=>Ky ho trivial,hK⟩
    ·rename_i l v hne ho
     simp only [Option.some.injEq,Prod.mk.injEq]at h
     obtain⟨rfl,rfl⟩:=h
     exact⟨v,fun hgt=>Ky ho (hl.1 hgt),hK⟩
    ·cases h
   ·cases h
   ·rename_i f xs hk
    simp only [hk]
    split at h
    ·rename_i r
     split at h
     ·rename_i hb
      simp only [Option.some.injEq,Prod.mk.injEq]at h
      obtain⟨rfl,rfl⟩:=h
      simp only [Bool.and_eq_true,Bool.or_eq_true,Bool.not_false,true_and,List.isEmpty_iff]at hb
      refine⟨fun hgt=>?_,r,hb.2.imp id (fun q=>by rw [Ur];exact q),fun hgt=>?_,hK⟩
      ·obtain⟨k1,k2⟩:=Mn (hl.1 hgt).1
       rw [k2]
       exact⟨k1,hb.1⟩
      ·obtain⟨k1,k2⟩:=Mn (hl.1 hgt).1
       rw [k2]
       exact(hl.1 hgt).2
     ·cases h
    ·cases h
   ·rename_i hk;exact absurd hk hef
   ·cases h
  ·cases h
theorem VF {P:Program} {I:World→Prop} {ops:Array Oper}: ∀ {l:List Oper} {ss:List Stp} {st st':St} {cs:List Prop} {K:St→Prop},GF P I false ops l ss st=some (cs,st')→AH cs→K st'→Da P I ops l st K
 | [],[],st,st',cs,K,h,_,hK=>by
   simp only [GF,Option.some.injEq,Prod.mk.injEq]at h
   obtain⟨rfl,rfl⟩:=h
   exact hK
 | o::rest,s::ss,st,st',cs,K,h,hl,hK=>by
   simp only [GF]at h
   split at h
   ·rename_i l1 st1 h1
    split at h
    ·rename_i l2 st2 h2
     simp only [Option.some.injEq,Prod.mk.injEq]at h
     obtain⟨rfl,rfl⟩:=h
     obtain⟨q1,q2⟩:=Aj.1 hl
     exact Xe (K:=fun s=>Da P I ops rest s K) h1 q1 (VF h2 q2 hK)
    ·cases h
   ·cases h
 | [],_::_,_,_,_,_,h,_,_=>by simp [GF]at h
 | _::_,[],_,_,_,_,h,_,_=>by simp [GF]at h
section
variable {P:Program} {F:Fr} {st:St}
theorem Ae.reg {id:Nat} {l:List Oper} {Q:Exit→St→Prop} {ss:List Stp} {cs:List Prop} {st':St} (hr:GF P F.I false l.toArray l ss st=some (cs,st')) (hl:AH cs) (h:Q .normal st'):Ae P F (.region id l.toArray false) st Q:=
 Ae.region (VF hr hl h)
theorem Ae.ifB {c:Operand} {x y:Code} {Q:Exit→St→Prop} (b:Bool) (hc:st.ev c= .c (.bool b)) (h1:b=true→Ae P F x st Q) (h2:b=false→Ae P F y st Q):Ae P F (.cond c x y) st Q:=Ae.cond hc h1 h2
def iter {σ ρ:Type} (B:σ→Option (σ⊕ρ)):Nat→σ→Option ρ
 | 0,_=>none
 | n+1,s=>match B s with
   | some (.inl s')=>iter B n s'
   | some (.inr r)=>some r
   | none=>none
end
def Al (x:Int):Int:=IntKind.i64.wrap x
def gd {α:Type} [Inhabited α] (g:Bool) (o:Option α):Option α:=if g=true then o else some default
def AN {α:Type} [Inhabited α] (l:List α) (i:Int):Option α:=if 0≤i∧i<l.length then some (l.getD i.toNat default)else none
def VG (s:List UInt8) (i:Int):Option Int:=if 0≤i∧i<s.length then some (s.getD i.toNat 0).toNat else none
def mc (a b:List UInt8):Option (List UInt8):=if a.length+b.length≤maxLen then some (a++b)else none
def bY (s:List UInt8) (a b:Int):Option (List UInt8):=if 0≤a∧a≤b∧b≤s.length then some ((s.drop a.toNat).take (b.toNat - a.toNat))else none
def Y4 {α:Type} (s:List α) (a b:Int):Option (List α):=if 0≤a∧a≤b∧b≤s.length then some ((s.drop a.toNat).take (b.toNat - a.toNat))else none
def EW {α:Type} (by':Nat) (l m:List α):Option (List α):=if(l.length+m.length)*by'≤140737488355328∧l.length+m.length≤maxLen then some (l++m)else none
def AS (p:Prop) [Decidable p]:Option Unit:=if p then some ()else none
theorem bS {α β:Type} {o:Option α} {k:α→Option β} {r:β} (h:o.bind k=some r): ∃ x,o=some x∧k x=some r:=by
 cases o with
 | none=>cases h
 | some x=>exact⟨x,rfl,h⟩
theorem iT {β:Type} {b:Bool} {x y:Option β} {r:β} (h:(if b=true then x else y)=some r) (hb:b=true):x=some r:=by rw [if_pos hb]at h;exact h
theorem iF {β:Type} {b:Bool} {x y:Option β} {r:β} (h:(if b=true then x else y)=some r) (hb:b=false):y=some r:=by rw [if_neg (by simp [hb])]at h;exact h
theorem sI {α:Type} {x y:α} (h:some x=some y):x=y:=Option.some.inj h
section
variable {α:Type} [Inhabited α] {l m r:List α} {i:Int} {x:α} {g:Bool}
theorem K3 (h:AN l i=some x):0≤i∧i<l.length:=by unfold AN at h;split at h; · assumption
                                                ·cases h
theorem Xf (h:AN l i=some x):x=l.getD i.toNat default:=by unfold AN at h;split at h; · injection h with h;exact h.symm
                                                          ·cases h
theorem QN {o:Option α} (h:gd g o=some x):g=true→o=some x:=fun hg=>by unfold gd at h;rw [if_pos hg]at h;exact h
theorem VH {s:List UInt8} {n:Int} (h:VG s i=some n):0≤i∧i<s.length:=by unfold VG at h;split at h; · assumption
                                                                       ·cases h
theorem VI {s:List UInt8} {n:Int} (h:VG s i=some n):n=(s.getD i.toNat 0).toNat :=by unfold VG at h;split at h; · injection h with h;exact h.symm
                                                                                    ·cases h
theorem me {a b c:List UInt8} (h:mc a b=some c):a.length+b.length≤maxLen:=by unfold mc at h;split at h; · assumption
                                                                             ·cases h
theorem mf {a b c:List UInt8} (h:mc a b=some c):c=a++b:=by unfold mc at h;split at h; · injection h with h;exact h.symm
                                                           ·cases h
theorem j9 {s c:List UInt8} {a b:Int} (h:bY s a b=some c):0≤a∧a≤b∧b≤s.length:=by unfold bY at h;split at h; · assumption
                                                                                 ·cases h
theorem kf {s c:List UInt8} {a b:Int} (h:bY s a b=some c):c=(s.drop a.toNat).take (b.toNat - a.toNat):=by unfold bY at h;split at h; · injection h with h;exact h.symm
                                                                                                          ·cases h
omit [Inhabited α] in
theorem IC {b:Nat} (h:EW b l m=some r):(l.length+m.length)*b≤140737488355328∧l.length+m.length≤maxLen:=by unfold EW at h;split at h; · assumption
                                                                                                          ·cases h
omit [Inhabited α] in
theorem dO {b:Nat} (h:EW b l m=some r):r=l++m:=by unfold EW at h;split at h; · injection h with h;exact h.symm
                                                  ·cases h
end
theorem CQ {p:Prop} [Decidable p] {u:Unit} (h:AS p=some u):p:=by unfold AS at h;split at h; · assumption
                                                                 ·cases h
def eI (k:IntKind) (v:Int):List C:=[.int k v]
def eS (v:List UInt8):List C:=[.str v]
def eL {α:Type} (e:α→List C) (l:List α):List C:=[.sl l.length (l.flatMap e)]
theorem VJ {α:Type} [Inhabited α] {l:List α} {i:Int} {x:α} {e:α→List C} {N:Nat} {o n:Nat} {ag:Bool} {v:V} {off:Nat} (hx:AN l i=some x) (hN: ∀ y,(e y).length =N) (hoff:off=i.toNat*N+o) (ho:o+n≤N) (h0:ag=true∨0<n)
 (hv:toV ag o n (e x)=v):off+n≤(l.flatMap e).length ∧toV ag off n (l.flatMap e)=v:=by
 have hb:=K3 hx
 have hxx:=Xf hx
 have hlt:i.toNat<l.length:=by omega
 subst hoff
 rw [Bo hN]
 constructor
 ·have:(i.toNat+1)*N≤l.length*N:=Nat.mul_le_mul_right _ hlt
  rw [Nat.add_mul]at this
  omega
 ·rw [←hv]
  unfold toV
  cases ag with
  | true=>simp only [if_true];rw [Un hN l default hlt o n ho, ←hxx]
  | false=>simp only [Bool.false_eq_true,if_false];rw [dy hN l default hlt o (by rcases h0 with h | h<;>first | (cases h;done) | omega), ←hxx]
def dP (P:Program) (st:St):ResultVar→Option V
 | .tmp t=>some (st.get t)
 | .cell t T=>match al P T st [] (st.get t)with
   | some (_,v)=>some v
   | none=>none
def Us (P:Program) (st:St):List ResultVar→Option (List V)
 | []=>some []
 | x::xs=>match dP P st x,Us P st xs with
   | some v,some vs=>some (v::vs)
   | _,_=>none
def gK (P:Program) (st:St):List ResultVar→Option V
 | [x]=>dP P st x
 | xs=>match Us P st xs with
   | some vs=>some (.tup vs)
   | none=>none
theorem QO {P:Program} {st:St} {x:ResultVar} {v:V} (h:dP P st x=some v):(KS P st x).1∧(KS P st x).2=v:=by
 cases x with
 | tmp t=>simp only [dP,Option.some.injEq]at h;exact⟨trivial,h⟩
 | cell t T=>
   simp only [dP]at h
   split at h
   ·rename_i l u hl
    injection h with h;subst h
    have:=OA hl
    exact⟨this.2.1,this.2.2⟩
   ·cases h
theorem OF {P:Program} {st:St}: ∀ {xs:List ResultVar} {vs:List V},Us P st xs=some vs→(Ch P st xs).1∧(Ch P st xs).2=vs
 | [],vs,h=>by simp only [Us,Option.some.injEq]at h;subst h;exact⟨trivial,rfl⟩
 | x::xs,vs,h=>by
   simp only [Us]at h
   split at h
   ·rename_i v us h1 h2
    injection h with h;subst h
    have a:=QO h1
    have b:=OF h2
    exact⟨⟨a.1,b.1⟩,by simp only [Ch,a.2,b.2]⟩
   ·cases h
theorem Xg {P:Program} {st:St} {x:ResultVar}:(Mm P st x).1=(KS P st x).1∧(Mm P st x).2=Bn st (KS P st x).2:=by cases x<;>exact⟨rfl,rfl⟩
theorem Ut {P:Program} {st:St}: ∀ {xs:List ResultVar},(EK P st xs).1=(Ch P st xs).1∧(EK P st xs).2=(Ch P st xs).2.map (Bn st)
 | []=>⟨rfl,rfl⟩
 | x::xs=>by
   have a:=Xg (P:=P) (st:=st) (x:=x)
   have b:=Ut (P:=P) (st:=st) (xs:=xs)
   simp only [EK,Ch,a.1,a.2,b.1,b.2,List.map_cons,and_self]
def jm (st:St) (rs:List ResultVar):V→V
 | .tup vs=>match rs with
   | [_]=> .tup vs
   | _=> .tup (vs.map (Bn st))
 | v=>Bn st v
theorem gL {P:Program} {st:St} {rs:List ResultVar} {v r:V} {e:Exit} (he:e= .normal ∨e= .ret) (h:gK P st rs=some v) (hs:jm st rs v=r) (hp:r.pure=true) {r':V} (hr:r=r'):
 (e= .normal ∨e= .ret)∧(Di P st rs).1∧(Di P st rs).2.pure =true∧(Di P st rs).2=r':=by
 subst hr
 have key:(Di P st rs).1∧(Di P st rs).2=r:=by
  match rs with
  | [x]=>
    have a:=QO h
    have b:=Xg (P:=P) (st:=st) (x:=x)
    simp only [Di]
    rw [b.1,b.2,a.2, ←hs]
    exact⟨a.1,by cases v<;>rfl⟩
  | []=>
    simp only [gK,Us,Option.some.injEq]at h
    subst h;subst hs
    exact⟨trivial,rfl⟩
  | x::y::xs=>
    simp only [gK]at h
    split at h
    ·rename_i vs hv
     injection h with h;subst h
     have a:=OF hv
     have b:=Ut (P:=P) (st:=st) (xs:=x::y::xs)
     simp only [Di]
     rw [b.1,b.2,a.2, ←hs]
     exact⟨a.1,rfl⟩
    ·cases h
 exact⟨he,key.1,by rw [key.2];exact hp,key.2⟩
def OG:List Bool→List V→List V
 | [],_=>[]
 | true::m,v::vs=>v::OG m vs
 | false::m,_::vs=> .undef ::OG m vs
 | _::_,[]=>[]
theorem ax: ∀ {m:List Bool} {l l':List V},m.length=l.length→OG m l=l'→WX l l'
 | [],[],l',_,h=>by simp only [OG]at h;subst h;trivial
 | true::m,v::vs,l',hl,h=>by simp only [OG]at h;subst h;exact⟨.inr rfl,ax (by simpa using hl) rfl⟩
 | false::m,v::vs,l',hl,h=>by simp only [OG]at h;subst h;exact⟨.inl rfl,ax (by simpa using hl) rfl⟩
 | [],_::_,_,hl,_=>by simp at hl
 | _::_,[],_,hl,_=>by simp at hl
section
variable {P:Program} {F:Fr} {st:St}
end
theorem nD {α β γ:Type} {f:α→γ} {g:β→γ} {a:α} {r:γ} (h:Sum.elim f g (.inl a)=r):f a=r:=h
theorem nE {α β γ:Type} {f:α→γ} {g:β→γ} {a:β} {r:γ} (h:Sum.elim f g (.inr a)=r):g a=r:=h
def FU:Nat:=9223372036854775807
theorem dQ {α:Type} [Inhabited α] {l:List α} {i:Int} {x:α} {e:α→List C} {N:Nat} {o n base:Nat} {ag:Bool} {v:V} {off:Nat} {cs pre post:List C} (hcs:cs=pre++(l.flatMap e++post)) (hb:pre.length=base) (hx:AN l i=some x) (hN: ∀ y,(e y).length =N) (hoff:off=base+(i.toNat*N+o)) (ho:o+n≤N) (h0:ag=true∨0<n)
 (hv:toV ag o n (e x)=v):off+n≤cs.length∧toV ag off n cs=v:=by
 obtain⟨h1,h2⟩:=VJ hx hN rfl ho h0 hv
 subst hcs hoff hb
 constructor
 ·simp only [List.length_append];omega
 ·rw [←h2]
  unfold toV
  cases ag with
  | true=>
    simp only [if_true]
    rw [←List.drop_drop,List.drop_left,List.drop_append_of_le_length (by omega),List.take_append_of_le_length (by simp only [List.length_drop];omega)]
  | false=>
    simp only [Bool.false_eq_true,if_false]
    have h3:0<n:=by rcases h0 with h | h<;>first | (cases h;done) | exact h
    simp only [List.getD_eq_getElem?_getD]
    rw [List.getElem?_append_right (by omega),Nat.add_sub_cancel_left,List.getElem?_append_left (by omega)]
end Go.PL
