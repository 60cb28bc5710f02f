/- The pure logic: PlYg, Tj, Tk, Tl, Tm, Tn, To, Tt, Tu, Tu2, Tu3, Tu4, Tu5, Tu6, Tu7, Tu8. -/
import Derived.Test.YteginlijmbcopaaGreatDoorPlPvtoPlYf
import Derived.Test.YteginlijmbcopaaGreatDoorPlRtoPlPt
open Option.some (injEq)
open List (mem_map mem_cons map_cons flatMap_cons nil_append mem_singleton cons_append append_assoc all_cons map_map mem_filter set_cons_succ append_nil nodup_cons getElem?_append_right getElem?_cons_zero map_congr_left length_append flatMap_append map_append mem_append length_set all_nil map_nil)
open Bool (and_eq_true)
open Nat (eq_of_beq_eq_true beq_eq add_mul le_succ le_refl mul_le_mul_right one_mul zero_add add_zero)
open Option (getD_none getD_some)
open Int (toNat_natCast)
set_option linter.all false
namespace Go.PL
open Go Go.RowKit
theorem R.anz {F:Fr} {st:St} {a:Act} {w w':World} {G:AG} (h:R F st a w G) {id:Ah} {e:Aw} (he:st.look id=some e) {E n len ace:Nat}
 {v v':Value} {xs us:List Value} {cs:List C} (hq:Ao cs=true) (hob:v.ownBlock=G.m_ id) (h2:Aj w G cs us)
 (hold:w.ownsRow 0 E n v len xs) (aas:w'.ownsRow 0 E n v' ace us) (hg:w.grownBy w' v.ownBlock) (hfr:v'.ownBlock=v.ownBlock\/ ∀ b,v'.ownBlock=some b->w.heap.size<=b):
 ∃ G',R F (st.new ⟨id,some (E,n,ace),cs,true⟩) a w' G'/\G'.own id=some v'/\v'.oneCell'=true:=by
 obtain⟨hm,hid⟩:=Bj he;have abD: ∀ b,b<w.heap.size->G.m_ id ≠ some b->w'.heap[b]? =w.heap[b]? :=fun b hb Tj=>hg.block b hb (by grind);have hn: ∀ b,v'.ownBlock=some b->w.heap.size<=b\/(G.m_ id=some b/\Cg w w' b):=by
  intro b hb;rcases hfr with q | q
  ·refine .inr ⟨by grind,?_⟩;have hb2:v.ownBlock=some b:=by grind
   intro cur T fz hc;rcases aas.2 with ⟨r,_⟩ | ⟨g,cap,adG,r,_,r2,_⟩
   ·rw [r]at hb;cases hb
   ·rw [r]at hb;simp only [Value.ownBlock,injEq]at hb;subst hb;rcases hold.2 with ⟨r3,_⟩ | ⟨g3,avN,avL,r3,_,r4,_⟩
    all_goals grind [Value.ownBlock]
  grind
 have hlt: ∀ b,v'.ownBlock=some b->b<w'.heap.size:=fun b hb=>(aas.lt b hb).2;have acW:v'.oneCell'=true:=by rcases aas.2 with ⟨q,_⟩ | ⟨g,cap,cur,q,_⟩<;>rw [q]<;>rfl
 refine⟨B9 F G id v'.ownBlock (some v'),?_,by simp [B9],acW⟩;have hk:=h.keeps id v'.ownBlock (some v') hg.size abD hn;have au_:=HV (row:=some (E,n,ace)) (pu:=true) h hk (fun _=>hq) h2;refine h.set ⟨id,some (E,n,ace),cs,true⟩ v'.ownBlock (some v') ⟨hg.os,hg.tape,hg.output⟩ hg.size abD ?_ (by grind) (fun _=>hq) ?_
 ·intro b hb aqH;refine abD b (Nat.lt_of_lt_of_le hb h.u_) (fun q=>?_);rcases h.new id b q with q2 | q2
  all_goals grind
 ·have hl2:=h2.length;have hln:=aas.1;refine JX (Aw.adT _ _) ⟨by grind [OM],v',by simp [B9,Aw.L_],?_⟩;rcases aas.2 with ⟨q,h0⟩ | ⟨g,cap,cur,q,_,q2,q3,q4,q5,q6⟩
  ·simp_all [B9,Value.ownBlock,Aw.L_]
  ·refine .inr ⟨g,cap,cur,q,by simp [B9,q,Value.ownBlock,Aw.L_],q2,q3,q4,q5,?_⟩;grind [An.aaA,BE,List.take_append_drop]
theorem DJ.clip {P:Program} {I:World->Prop} {o:Oper} {st:St} {K:St->Prop} {t:TypeId} {x:Operand} {k k':IntKind} {len:Nat} {cs:List C} (E n d:Nat)
 (ho:o.op= .slice t x none (some (.const (.int k 0))) (some (.const (.int k' 0)))) (hd:o.dst=some d)
 (hK:K ((st.new ⟨d::st.pre,some (E,n,0),[],true⟩).put (some d) (.c (.e_ (d::st.pre)))))
 (hs:Dk P t=some (E,n):=by kernel_rfl) (hx:st.ev x= .c (.sl len cs):=by kernel_rfl):DJ P I o st K:=by
 intro F a w G Q hI hR;obtain⟨hu,inf,hi,hsz⟩:=DI hs;have V_:=hR.ev x;rw [hx]at V_;simp only [Ab,Ad]at V_;obtain⟨_,p,cap,he,_⟩:=V_;have hb:(Instr.sliceBounds true len cap none (some (.int k 0)) (some (.int k' 0))).run P w= .ok (0,0,0) w:=by simp_all [Tc,Instr.sliceBounds]
 have q_:(execOp a.eval o).run P w= .ok (.value (.slice p 0 0)) w:=by have hc: ∀ u,a.eval (.const u)=u:=fun _=>rfl;simp [execOp,ho,he,hc,Instr.sliceAt,Instr.slice,Sem.run_bind,run_underlying hu,hb,sizeOf,typeInfo,program,Sem.run,hi,hsz]
 refine AJ q_ ⟨_,B9 F G (d::st.pre) none (some (.slice p 0 0)),hK,?_⟩;rw [hd];exact R.put (d:=some d) (hR.ami (d::st.pre) E n p) (by simp only [Ab,Ad,B9,if_true];exact⟨trivial,rfl⟩)
def W7 (P:Program) (f:FuncId) (E:TypeId):Prop:=
 ∀ (w:World) (v:Value) (n i vb m vc:Nat) (xs us:List Value) (cur:Array Value) (T:TypeId) (row:Option Nat),
   (w.ownsRow 0 E 1 v n xs/\row=v.ownBlock\/ ∃ p,v= .slice (some p) 0 0/\n=0/\xs=[]/\row=none)->i<=n->0<m->(∀ u∈xs,u.oneCell'=true)->(∀ u∈us,u.oneCell'=true)->us.length=m->(n+m)*8<=140737488355328->m<=vc->cur.size=vc->
   row ≠ some vb->w.heap[vb]? =some (.cells cur T (0,0))->cur.toList.take m=us->
   Calls P f #[v, .int .i64 i, .slice (some ⟨vb,0,none⟩) m vc] w fun e w'=> ∃ v',e= .returned v'/\w'.ownsRow 0 E 1 v' (n+m) (xs.take i++us++xs.drop i)/\
    w.grownBy w' row/\(v'.ownBlock=row\/ ∀ b,v'.ownBlock=some b->w.heap.size<=b)
theorem DJ.ins {P:Program} {I:World->Prop} {o:Oper} {st:St} {K:St->Prop} {f:FuncId} {x y z:Operand} {r rv:Ah} {E len m:Nat} {cs ds:List C} {i:Int} (hk:Ck o.op= .call f [x,y,z]) (abr:ent P f=true) (azp:W7 P f E)
 (hx: ∀ Fr a w G,R Fr st a w G->Ab w G (.c (.e_ r)) (a.eval x)) (hy: ∀ Fr a w G,R Fr st a w G->Ab w G (.c (.int .i64 i)) (a.eval y)) (hz: ∀ Fr a w G,R Fr st a w G->Ab w G (.c (.e_ rv)) (a.eval z))
 (hl:st.look r=some ⟨r,some (E,1,len),cs,true⟩) (hl2:st.look rv=some ⟨rv,some (E,1,m),ds,true⟩) (Tj:r ≠ rv) (hi:0<=i/\i<=(len:Nat)) (hm:0<m) (amR:(len+m)*8<=140737488355328)
 {s1:St} (hls:Cp (st.new ⟨r,some (E,1,len+m),cs.take i.toNat++ds++cs.drop i.toNat,true⟩) s1) (hK:K (s1.put o.dst (.c (.e_ r)))):DJ P I o st K:=by
 intro F a w G Q hI hR;have hr:=Sz (a:=a) hk abr w;unfold Oper.wp Oper.upon;rw [hr];obtain⟨hm1, -⟩:=Bj hl;obtain⟨hm2, -⟩:=Bj hl2;have V_:=hx F a w G hR;have hyv:=hy F a w G hR;have hzv:=hz F a w G hR;simp only [Ab,Ad]at V_ hyv hzv;obtain⟨v,xs,k1,k2,k3,k4⟩:=DB (e:=⟨r,some (E,1,len),cs,true⟩) rfl (hR.store _ hm1);obtain⟨u,us,q1,q2,q3,q4⟩:=DB (e:=⟨rv,some (E,1,m),ds,true⟩) rfl (hR.store _ hm2);have hxe:a.eval x=v:=by grind
 have hze:a.eval z=u:=by grind
 have hye:a.eval y= .int .i64 i:=hyv;have asm:([x,y,z].map a.eval).toArray = #[v, .int .i64 i,u]:=by grind
 rw [asm];obtain⟨j,hj⟩: ∃ j:Nat,i=(j:Int):=(by grind);subst hj;simp only [toNat_natCast]at hls;rcases q4 with ⟨q4,q5⟩ | ⟨p,_,q0,_⟩
 rotate_left
 ·omega
 rcases q4.2 with ⟨_,q0⟩ | ⟨vb,vc,cur,rfl,_,c1,c2,c3,c4,c5⟩
 ·omega
 simp only [Nat.mul_one]at c4 c5;have hrv:G.m_ rv=some vb:=q5.symm;have hlx:xs.length=len:=by
  have h5:cs.length=len*1:=by have:=hR.store _ hm1;grind [Bc]
  have h6:cs.length=xs.length:=k3.length;omega
 have hlu:us.length=m:=by grind
 have hold:(w.ownsRow 0 E 1 v len xs/\G.m_ r=v.ownBlock\/ ∃ p,v= .slice (some p) 0 0/\len=0/\xs=[]/\G.m_ r=none):=by grind
 refine(azp w v len j vb m vc xs us cur E (G.m_ r) hold (by omega) hm (Aj.one k3) (Aj.one q3) hlu amR c2 c4 (fun q=>Tj (hR.inj _ _ _ q hrv)) c1 c5).mono fun e w' ⟨v',he,h1,h2,h3⟩=>?_;subst he;have afC:Aj w G (cs.take j++ds++cs.drop j) (xs.take j++us++xs.drop j):=((k3.take j).append q3).append (k3.drop j);have hp:Ao (cs.take j++ds++cs.drop j)=true:=by have p1:Ao cs=true:=hR.x_ _ hm1 rfl;have p2:Ao ds=true:=hR.x_ _ hm2 rfl;grind [Cf]
 have fin: ∃ G',R F (st.new ⟨r,some (E,1,len+m),cs.take j++ds++cs.drop j,true⟩) a w' G'/\G'.own r=some v'/\v'.oneCell'=true:=by
  rcases hold with ⟨g1,g2⟩ | ⟨p,g1,g2,g3,g4⟩
  ·exact R.anz hR hl hp g2.symm afC g1 h1 (by grind) (by grind)
  ·rw [g4]at h2 h3;exact R.anz hR hl (v:= .slice none 0 0) (len:=0) (xs:=[]) hp (by rw [g4];rfl) afC ⟨by simp, .inl ⟨rfl,rfl⟩⟩ h1 h2 h3
 obtain⟨G',g1,g2,g3⟩:=fin;exact⟨_,G',hK,(g1.less hls).put (by simp_all [Ab,Ad])⟩
end Go.PL
namespace Go.PL
open Go Go.RowKit
variable {T:Bo}
inductive VT where
 | k (kd:Kd)
 | s (E:Nat)
 | f (g:FuncId)
def Eu (T:Bo):VT->Type
 | .k kd=>P6 T.den kd
 | .s E=>T.den E
 | .f _=>Unit
def Ad4 (T:Bo):(k:Kd)->P6 T.den k
 | .int _=>(default:Int)
 | .bool =>(default:Bool)
 | .str =>(default:List UInt8)
 | .l_ E=>(default:List (T.den E))
def Ad5 (T:Bo):(t:VT)->Eu T t
 | .k kd=>Ad4 T kd
 | .s E=>(T.inh E).default
 | .f _=>()
def QN:(t:VT)->Eu T t->DV T
 | .k kd,x=> .c (.k kd x)
 | .s E,x=> .agg (jv E x)
 | .f g,_=> .c (.c (.fn g))
def Ev:(t:VT)->Eu T t->V
 | .k kd,x=> .c (Bm T.enc kd x)
 | .s E,x=> .agg (T.enc E x)
 | .f g,_=> .c (.fn g)
theorem P8 (t:VT) (x:Eu T t):(QN t x).toV =Ev t x:=by
 cases t with
 | k kd=>simp only [QN,DV.toV,DC.toC,Ev]
 | s E=>exact congrArg V.agg (Gz E x)
 | f g=>simp only [QN,DV.toV,DC.toC,Ev]
theorem SQ {H:As T} {nx:Nat} (t:VT) (x:Eu T t):(QN t x).ok H nx:=by cases t<;>grind [QN,DV.ok,DC.ok,M6]
def asC:DV T->Option (DC T)
 | .c x=>some x
 | _=>none
def asA:DV T->Option (List (DC T))
 | .agg cs=>some cs
 | _=>none
def jB (kd:Kd) (v:DV T):Option (P6 T.den kd):=match asC v with
 | some x=>Ij false kd x
 | none=>none
def ajL (E:Nat) (v:DV T):Option (T.den E):=match asA v with
 | some cs=>xp false E cs
 | none=>none
def ro (g:FuncId):DV T->Option Unit
 | .c (.c (.fn g'))=>match Nat.beq g' g with
   | true=>some ()
   | false=>none
 | _=>none
def yD:(t:VT)->DV T->Option (Eu T t)
 | .k kd,v=>jB kd v
 | .s E,v=>ajL E v
 | .f g,v=>ro g v
theorem Z2 {v:DV T} {x:DC T} (h:asC v=some x):v= .c x:=by unfold asC at h;grind
theorem Z3 {v:DV T} {x:List (DC T)} (h:asA v=some x):v= .agg x:=by unfold asA at h;grind
theorem tT {kd:Kd} {v:DV T} {x:P6 T.den kd} (h:jB kd v=some x):v.toV= .c (Bm T.enc kd x):=by
 unfold jB at h;split at h
 ·rename_i y hy;rw [Z2 hy];simp only [DV.toV,(CB h).2 rfl]
 ·cases h
theorem AbN {E:Nat} {v:DV T} {x:T.den E} (h:ajL E v=some x):v.toV= .agg (T.enc E x):=by
 unfold ajL at h;split at h
 ·rename_i y hy;rw [Z3 hy];simp only [DV.toV,(Ik h).2 rfl]
 ·cases h
theorem AbO {g:FuncId} {v:DV T} {x:Unit} (h:ro g v=some x):v.toV= .c (.fn g):=by unfold ro at h;grind [eq_of_beq_eq_true,DV.toV,DC.toC]
theorem Z4 {t:VT} {v:DV T} {x:Eu T t} (h:yD t v=some x):v.toV=Ev t x:=by
 cases t with
 | k kd=>exact tT h
 | s E=>exact AbN h
 | f g=>exact AbO h
def XS (T:Bo):List VT->Type
 | []=>Unit
 | t::ts=>Eu T t×XS T ts
def Gf:(ts:List VT)->XS T ts->List V
 | [],_=>[]
 | t::ts,x=>Ev t x.1::Gf ts x.2
def Vg:(ts:List VT)->List (DV T)->Option (XS T ts)
 | [],[]=>some ()
 | t::ts,v::vs=>match yD t v,Vg ts vs with
   | some x,some y=>some (x,y)
   | _,_=>none
 | _,_=>none
theorem W8: ∀ {ts:List VT} {vs:List (DV T)} {x:XS T ts},Vg ts vs=some x->Bg vs=Gf ts x
 | [],[],x,_=>by simp only [Bg,Gf]
 | [],_::_,_,h=>by simp [Vg]at h
 | _::_,[],_,h=>by simp [Vg]at h
 | t::ts,v::vs,x,h=>by
   unfold Vg at h;split at h
   ·rename_i a b h1 h2;injection h with h;subst h;simp only [Bg,Gf,Z4 h1,W8 h2]
   ·cases h
def RT (T:Bo):List VT->Type
 | []=>Unit
 | [t]=>Eu T t
 | t::u::ts=>Eu T t×RT T (u::ts)
def Ad6 (T:Bo):(ts:List VT)->RT T ts
 | []=>()
 | [t]=>Ad5 T t
 | t::u::ts=>(Ad5 T t,Ad6 T (u::ts))
instance (ts:List VT):Inhabited (RT T ts):=⟨Ad6 T ts⟩
def CC:(ts:List VT)->RT T ts->List (DV T)
 | [],_=>[]
 | [t],x=>[QN t x]
 | t::u::ts,x=>QN t x.1::CC (u::ts) x.2
def Vh:(ts:List VT)->RT T ts->DV T
 | [],_=> .tup []
 | [t],x=>QN t x
 | t::u::ts,x=> .tup (CC (t::u::ts) x)
def Cs:(ts:List VT)->RT T ts->List V
 | [],_=>[]
 | [t],x=>[Ev t x]
 | t::u::ts,x=>Ev t x.1::Cs (u::ts) x.2
def Ji:(ts:List VT)->RT T ts->V
 | [],_=> .tup []
 | [t],x=>Ev t x
 | t::u::ts,x=> .tup (Cs (t::u::ts) x)
theorem Z5: ∀ (ts:List VT) (x:RT T ts),Bg (CC ts x)=Cs ts x
 | [],_=>by simp only [CC,Bg,Cs]
 | [t],x=>congrArg (fun z=>[z]) (P8 t x)
 | t::u::ts,x=>by simp only [CC,Bg,Cs,P8,Z5 (u::ts)]
theorem O7: ∀ (ts:List VT) (x:RT T ts),(Vh ts x).toV =Ji ts x
 | [],_=>by simp only [Vh,DV.toV,Ji,Bg]
 | [t],x=>P8 t x
 | t::u::ts,x=>by simp only [Vh,DV.toV,Ji,Z5]
theorem Vi {H:As T} {nx:Nat}: ∀ (ts:List VT) (x:RT T ts),CX H nx (CC ts x)
 | [],_=>by simp only [CC,CX]
 | [t],x=>by simp only [CC,CX,and_true];exact SQ t x
 | t::u::ts,x=>by simp only [CC,CX,SQ,Vi (u::ts),and_self]
theorem SR {H:As T} {nx:Nat}: ∀ (ts:List VT) (x:RT T ts),(Vh ts x).ok H nx
 | [],_=>by simp only [Vh,DV.ok,CX]
 | [t],x=>SQ t x
 | t::u::ts,x=>by grind [Vh,DV.ok,Vi]
def jC:Kd->Bool
 | .l_ _=>false
 | _=>true
def Vj (T:Bo):VT->Bool
 | .k kd=>jC kd
 | .s E=>(T.ks E).all jC
 | .f _=>true
theorem Z6 {den:Nat->Type} {enc: ∀ E,den E->List C}: ∀ (ks:List Kd) (y:DK den ks),(BG enc ks y).all C.flat=ks.all jC
 | [],_=>rfl
 | k::ks,y=>by simp only [BG,all_cons,Z6 ks];cases k<;>rfl
theorem RA (t:VT) (x:Eu T t):(Ev t x).flat =Vj T t:=by
 cases t with
 | k kd=>cases kd<;>rfl
 | s E=>
   show (T.enc E (show T.den E from x)).all C.flat=(T.ks E).all jC;rw [<-T.aa2,Z6]
 | f g=>rfl
theorem W9: ∀ (ts:List VT) (x:RT T ts),LJ (Cs ts x)=ts.all (Vj T)
 | [],_=>by simp [Cs,LJ]
 | [t],x=>by simp only [Cs,LJ,all_cons,all_nil,Bool.and_true];exact RA t x
 | t::u::ts,x=>by simp only [Cs,LJ,RA,W9 (u::ts),all_cons]
theorem Mi: ∀ (ts:List VT) (x:RT T ts),(Ji ts x).flat =ts.all (Vj T)
 | [],_=>by simp [Ji,V.flat,LJ]
 | [t],x=>by simp only [Ji,all_cons,all_nil,Bool.and_true];exact RA t x
 | t::u::ts,x=>by simp only [Ji,V.flat,W9]
def Ko (m:Nat):(k:Kd)->P6 T.den k->List OE
 | .l_ E,l=>match m with
   | 1=>[⟨false,E,T.sz E,List.length l,List.flatMap (T.enc E) l⟩]
   | 2=>[⟨true,E,T.sz E,List.length l,AC T E (List.length l:Nat) 0 l⟩]
   | _=>[]
 | _,_=>[]
def QF (m:Nat):Kd->Nat
 | .l_ _=>match m with
   | 1=>1
   | 2=>1
   | _=>0
 | _=>0
def QO (m j:Nat) (k:Kd) (x:P6 T.den k):PC:=match QF m k with
 | 0=> .c (Bm T.enc k x)
 | _=> .o j
def Z7 (m:Nat) (id:Ah) (k:Kd):List Ah:=match QF m k with
 | 0=>[]
 | _=>match m with
   | 2=>[1000003::id]
   | _=>[id]
def Ct:List Nat->(ks:List Kd)->DK T.den ks->List OE
 | m::ms,k::ks,x=>Ko m k x.1++Ct ms ks x.2
 | _,_,_=>[]
def Fv:List Nat->Nat->(ks:List Kd)->DK T.den ks->List PC
 | m::ms,j,k::ks,x=>QO m j k x.1::Fv ms (j+QF m k) ks x.2
 | [],j,k::ks,x=> .c (Bm T.enc k x.1)::Fv [] j ks x.2
 | _,_,[],_=>[]
def Mj:List Nat->Nat->Ah->List Kd->List Ah
 | m::ms,i,B_,k::ks=>Z7 m (i::B_) k++Mj ms (i+1) B_ ks
 | _,_,_,_=>[]
def Fw:List Nat->List Kd->Nat
 | m::ms,k::ks=>QF m k+Fw ms ks
 | _,_=>0
def Fi (T:Bo):VT->List Kd
 | .k kd=>[kd]
 | .s E=>T.ks E
 | .f _=>[]
def O8:(t:VT)->Eu T t->DK T.den (Fi T t)
 | .k _,x=>(x,())
 | .s E,x=>T.un E x
 | .f _,_=>()
def I9 (m:List Nat) (j:Nat):(t:VT)->Eu T t->PP
 | .k kd,x=> .c (QO (m.headD 0) j kd x)
 | .s E,x=> .a (Fv m j (T.ks E) (T.un E x))
 | .f g,_=> .c (.c (.fn g))
def Dm:List (List Nat)->(ts:List VT)->RT T ts->List OE
 | m::_,[t],x=>Ct m (Fi T t) (O8 t x)
 | m::ms,t::u::ts,x=>Ct m (Fi T t) (O8 t x.1)++Dm ms (u::ts) x.2
 | _,_,_=>[]
def B4:List (List Nat)->Nat->(ts:List VT)->RT T ts->List PP
 | m::_,j,[t],x=>[I9 m j t x]
 | [],j,[t],x=>[I9 [] j t x]
 | m::ms,j,t::u::ts,x=>I9 m j t x.1::B4 ms (j+Fw m (Fi T t)) (u::ts) x.2
 | [],j,t::u::ts,x=>I9 [] j t x.1::B4 [] j (u::ts) x.2
 | _,_,[],_=>[]
def Z8 (T:Bo):List (List Nat)->Nat->Ah->List VT->List Ah
 | m::ms,p,B_,t::ts=>Mj m 0 (p::B_) (Fi T t)++Z8 T ms (p+1) B_ ts
 | _,_,_,_=>[]
structure CE (T:Bo) (P:Program) (I:World->Prop) where
 f:FuncId
 ps:List VT
 rs:List VT
 run:XS T ps->Option (RT T rs)
 ok: ∀ x r,run x=some r->Cd P I f (Gf ps x) (· =Ji rs r)
 ow:List (List Nat):=[]
 okx:ow ≠ []-> ∀ x r,run x=some r->M8 P I f (Gf ps x) (Dm ow rs r) (B4 ow 0 rs r):=by exact fun h=>absurd rfl h
 ins:Option TypeId:=none
 aqz: ∀ E,ins=some E->W7 P f E:=by exact fun _ h=>nomatch h
 tab:Option (Nat×List (List UInt8)):=none
 aqa: ∀ g t,tab=some (g,t)->OU I g t:=by exact fun _ _ h=>nomatch h
def RB {P:Program} {I:World->Prop} (f:FuncId) (ws:List (DV T)):List (CE T P I)->Option ((e:CE T P I)×XS T e.ps)
 | []=>none
 | e::r=>match Nat.beq e.f f with
   | true=>match Vg e.ps ws with
     | some x=>some ⟨e,x⟩
     | none=>RB f ws r
   | false=>RB f ws r
theorem Gk {P:Program} {I:World->Prop} {f:FuncId} {ws:List (DV T)}: ∀ {l:List (CE T P I)} {e:CE T P I} {x:XS T e.ps},RB f ws l=some ⟨e,x⟩->e.f=f/\Bg ws=Gf e.ps x
 | [],_,_,h=>by cases h
 | a::r,e,x,h=>by
   unfold RB at h;split at h
   ·rename_i hb;split at h
    ·rename_i y hy;injection h with h;injection h with h1 h2;subst h1;have h2:=eq_of_heq h2;grind [eq_of_beq_eq_true,W8]
    ·exact Gk h
   ·exact Gk h
def jD (st:Af T) (c:DC T):Option (DC T):=match Le c with
 | some id=>match DG st id with
   | some ⟨E,l⟩=>some (.k (.l_ E) l)
   | none=>none
 | none=>some (ZV c)
def Z9 (st:Af T):List (DC T)->Option (List (DC T))
 | []=>some []
 | c::cs=>match jD st c,Z9 st cs with
   | some d,some ds=>some (d::ds)
   | _,_=>none
def jE (st:Af T):DV T->Option (DV T)
 | .c x=>match jD st x with
   | some y=>some (.c y)
   | none=>none
 | .agg cs=>match Z9 st cs with
   | some ds=>some (.agg ds)
   | none=>none
 | _=>none
def M9 (st:Af T):List (DV T)->Option (List (DV T))
 | []=>some []
 | v::vs=>match jE st v,M9 st vs with
   | some d,some ds=>some (d::ds)
   | _,_=>none
def tU (c:DC T):List Ah:=match Le c with
 | some id=>[id]
 | none=>[]
def gC:List (DC T)->List Ah
 | []=>[]
 | c::cs=>tU c++gC cs
def tV:DV T->List Ah
 | .c x=>tU x
 | .agg cs=>gC cs
 | _=>[]
def SS:List (DV T)->List Ah
 | []=>[]
 | v::vs=>tV v++SS vs
theorem Na {c:DC T} (h:Le c=none): ∀ id,c.toC ≠ .e_ id:=fun i he=>by
 cases c with
 | c x=>grind [DC.toC,Le]
 | k kd x=>cases kd<;>simp [DC.toC,Bm]at he
 | ip=>simp [DC.toC]at he
 | rp=>simp [DC.toC]at he
 | ap=>simp [DC.toC]at he
 | bs=>simp [DC.toC]at he
 | clo b f cs=>cases b<;>simp [DC.toC]at he
theorem Xa {st:Af T} {c d:DC T} (h:jD st c=some d):K9 st.toSt c.toC=d.toC:=by
 unfold jD at h;split at h
 ·rename_i id ho;have:=Es ho;subst this;split at h
  ·rename_i E l hr;injection h with h;subst h;simp only [DC.toC,K9,(BN hr).1,Bm,if_true]
  ·cases h
 ·rename_i ho;injection h with h;subst h;rw [ZW];have:=Na ho;cases hc:c.toC<;>simp only [K9,Hf];grind
theorem Xb {st:Af T}: ∀ {cs ds:List (DC T)},Z9 st cs=some ds->(Ar cs).map (K9 st.toSt)=Ar ds
 | [],ds,h=>by grind [Z9,Ar]
 | c::cs,ds,h=>by
   unfold Z9 at h;split at h
   ·rename_i d ds' h1 h2;injection h with h;subst h;simp only [Ar,map_cons,Xa h1,Xb h2]
   ·cases h
theorem Xc {st:Af T} {v w:DV T} (h:jE st v=some w):BF st.toSt v.toV=w.toV:=by unfold jE at h;grind [DV.toV,BF,Xa,Xb]
theorem GA {st:Af T}: ∀ {vs ws:List (DV T)},M9 st vs=some ws->(Bg vs).map (BF st.toSt)=Bg ws
 | [],ws,h=>by grind [M9,Bg]
 | v::vs,ws,h=>by
   unfold M9 at h;split at h
   ·rename_i d ds' h1 h2;injection h with h;subst h;simp only [Bg,map_cons,Xc h1,GA h2]
   ·cases h
theorem ac (c:DC T):Sy c.toC=tU c:=by
 unfold tU;split
 ·rename_i id ho;rw [Es ho];simp only [DC.toC,Sy]
 simp_all [Na,Sy]
theorem ae: ∀ cs:List (DC T),(Ar cs).flatMap Sy=gC cs
 | []=>by simp [Ar,gC]
 | c::cs=>by simp only [Ar,flatMap_cons,ac,ae cs,gC]
theorem rq (v:DV T):xw v.toV=tV v:=by cases v<;>grind [DV.toV,xw,tV,ac,ae]
theorem FT: ∀ vs:List (DV T),C2 (Bg vs)=SS vs
 | []=>by simp [Bg,C2,SS]
 | v::vs=>by have:=FT vs;simp only [C2]at this ⊢;simp only [Bg,flatMap_cons,rq,this,SS]
theorem Dh (t:VT) (x:Eu T t):(Ev t x).pure =true:=by
 cases t with
 | k kd=>grind [Ev,V.pure,Zy]
 | s E=>grind [Ev,V.pure,ZA]
 | f g=>rfl
theorem Kp: ∀ (ts:List VT) (x:XS T ts),Ci (Gf ts x)=true
 | [],_=>by simp only [Gf,Ci]
 | t::ts,x=>by simp only [Gf,Ci,Dh,Kp ts,Bool.and_self]
theorem Af.arg_val {st:Af T} {key:List GL} {x:Operand} {v:DV T} (h:st.arg key x=some v) (g:Bool):(st.toSt.arg g x).2=v.toV:=by
 have e:=st.abS x;unfold Af.arg at h;unfold St.arg;split at h
 ·grind [DV.toV]
 ·rename_i Tj;injection h with h;subst h;rw [e];cases hv:st.ev x<;>grind [DV.toV]
theorem Vk {st:Af T} {key:List GL} (g:Bool): ∀ {xs:List Operand} {vs:List (DV T)},I7 st key xs=some vs->(st.toSt.args g xs).2=Bg vs
 | [],vs,h=>by grind [I7,St.args,Bg]
 | x::xs,vs,h=>by
   unfold I7 at h;split at h
   ·rename_i v vs' h1 h2;injection h with h;subst h;simp only [St.args,Bg,Af.arg_val h1 g,Vk g h2]
   ·cases h
def gD {P:Program} {I:World->Prop} (Γ:List (CE T P I)) (key:List GL) (st:Af T) (f:FuncId) (xs:List Operand) (d:Option Nat):M (Af T):=
 match I7 st key xs with
 | some vs=>match M9 st vs with
   | some ws=>match RB f ws Γ with
     | some ⟨e,x⟩=> .opt (gk key (e.run x)) fun r=>match key with
       | []=>match e.rs.all (Vj T)with
         | true=> .ret (st.put d (Vh e.rs r))
         | false=>match SS vs with
           | []=> .ret (st.put d (Vh e.rs r))
           | [id]=>match st.frz id with
             | some s=> .ret (s.put d (Vh e.rs r))
             | none=> .no
           | _=> .no
       | l::ls=>match e.rs.all (Vj T),SS vs with
         | true,_=> .ret (st.put d (.g (l::ls) (Vh e.rs r)))
         | false,[]=> .ret (st.put d (.g (l::ls) (Vh e.rs r)))
         | _,_=> .no
     | none=> .no
   | none=> .no
 | none=> .no
def yE (H:As T) (P:Program) (I:World->Prop) (ops:Array Oper) (st:Af T) (o:Oper) (an:Af T):Prop:=
 (∃ H',Nx H st H' an)/\an.pre=st.pre/\ ∀ K:St->Prop,K an.toSt->fB P I ops o st.toSt K
section
variable {H:As T} {P:Program} {I:World->Prop} {Γ:List (CE T P I)} {st:Af T}
theorem we (hw:AH H st) {f:FuncId} {xs:List Operand} {o:Oper} (hk:Ck o.op= .call f xs):
 Yl (gD Γ [] st f xs o.dst) (fun an=>(∃ H',Nx H st H' an)/\an.pre=st.pre/\ ∀ K:St->Prop,K an.toSt->vm P I o st.toSt K):=by
 unfold gD;split
 ·rename_i vs hvs;split
  ·rename_i ws hws;split
   ·rename_i e x hx;obtain⟨he,hx⟩:=Gk hx;refine Yl.opt fun r hr=>?_;obtain⟨a1,a2,a3⟩:=Dg (key:=[]) hw (fun _ hl=>by cases hl) rfl hvs;change (st.toSt.args true xs).1 at a2;change (st.toSt.args true xs).2=Bg vs at a3;have hp:=e.ok x r (SH hr rfl);rw [he]at hp;have hs:(Bg vs).map (BF st.toSt)=Gf e.ps x:=by rw [GA hws,hx]
    have base: ∀ an:Af T,((Ji e.rs r).flat =true\/(C2 (Bg vs)).length <=1/\ ∀ id∈C2 (Bg vs),st.toSt.acs id=true)->an.toSt=st.toSt.after (C2 (Bg vs)) o.dst (Ji e.rs r)-> ∀ K:St->Prop,K an.toSt->vm P I o st.toSt K:=by intro an h1 h2 K hK;refine .inr ?_;grind [Kp]
    simp only;split
    ·rename_i hf;refine Yl.ret ⟨Af.aao hw _ (SR _ _),AS _ _ _,base _ (.inl (by rw [Mi];exact hf)) ?_⟩;simp_all [Af.h_,O7,St.after,Mi]
    ·rename_i hf;have hnf: ¬(Ji e.rs r).flat =true:=by rw [Mi,hf];simp
     split
     ·rename_i ht;refine Yl.ret ⟨Af.aao hw _ (SR _ _),AS _ _ _,base _ (.inr (by rw [FT,ht];simp)) ?_⟩;simp_all [Af.h_,O7,FT,St.after]
     ·rename_i id ht;split
      ·rename_i s hs';obtain⟨⟨H1,hN⟩,h2,h3,h4⟩:=Af.agN hw hs';refine Yl.ret ⟨Af.D_ hN _ (SR _ _),by rw [AS];exact h4,base _ (by grind [FT]) ?_⟩;simp_all [Af.h_,O7,FT,St.after]
      ·exact Yl.no
     ·exact Yl.no
   ·exact Yl.no
  ·exact Yl.no
 ·exact Yl.no
theorem Mk {H:As T} {st:Af T} {key:List GL} (hw:AH H st) (hk:Fs H st.nx key) (d:Option Nat) {v:DV T} (hv:Be key=true->v.ok H st.nx): ∃ H',Nx H st H' (st.put d (.g key v)):=
 Af.aao hw d (by simp only [DV.ok];exact⟨hk,hv⟩)
theorem wg (hw:AH H st) {f:FuncId} {xs:List Operand} {o:Oper} {key:List GL} (hk:Ck o.op= .call f xs) (an9:Fs H st.nx key) (Tj:key ≠ []):
 Yl (gD Γ key st f xs o.dst) (fun an=>(∃ H',Nx H st H' an)/\an.pre=st.pre/\ ∀ K:St->Prop,K an.toSt->wpG P I o st.toSt (Be key) K):=by
 unfold gD;split
 ·rename_i vs hvs;split
  ·rename_i ws hws;split
   ·rename_i e x hx;obtain⟨he,hx⟩:=Gk hx;refine Yl.opt fun r hr=>?_;have hs:(Bg vs).map (BF st.toSt)=Gf e.ps x:=by rw [GA hws,hx]
    have base:((Ji e.rs r).flat =true\/SS vs=[])-> ∀ K:St->Prop,K (st.put o.dst (.g key (Vh e.rs r))).toSt ->wpG P I o st.toSt (Be key) K:=by
     intro h1 K hK;refine .inr ?_;rw [hk];simp only;rw [Vk _ hvs,hs,FT];rw [Af.h_]at hK;refine⟨fun hc=>?_,Ji e.rs r,h1,fun hc=>?_,by grind [DV.toV,O7]⟩
     ·obtain⟨a1,a2,a3⟩:=Dg hw an9 hc hvs;grind [Kp]
     ·have hp:=e.ok x r (SH hr hc);grind
    split
    ·grind
    ·rename_i l ls;split
     all_goals simp_all [Yl.ret,Mk,SR,AS,Mi,Yl.no]
   ·exact Yl.no
  ·exact Yl.no
 ·exact Yl.no
end
end Go.PL
namespace Go.PL
open Go Go.RowKit
variable {T:Bo}
def Ae7 (n:Nat) (want b:Bool):GL:=⟨n,want,b==want⟩
def ah (st:Af T) (ops:Array Oper) (j:Nat) (want:Bool):Option (List GL):=
 match ops[j]? with
 | some p=>match p.dst with
   | some t=>match ZF st (.tmp t),st.get t with
     | n+1, .c (.k .bool b)=>some [Ae7 n want b]
     | n+1, .g k (.c (.k .bool b))=>some (Ae7 n want b::k)
     | _,_=>none
   | none=>none
 | none=>none
theorem O9 {H:As T} {st:Af T} {ops:Array Oper} {j:Nat} {want:Bool} {key:List GL} (hw:AH H st) (h:ah st ops j want=some key):Je st.toSt ops j want=some (Be key)/\Fs H st.nx key/\key ≠ []:=by
 unfold ah at h;unfold Je;split at h
 ·rename_i p hp;split at h
  ·rename_i t ht;simp only [hp,ht];have hg:=st.aa_ t;have hok:=Af.ag5 hw t;have tg: ∀ n,ZF st (.tmp t)=n+1->n<st.nx/\H.v n=st.get t:=by
    intro n hn;unfold ZF at hn;simp only at hn;split at hn
    ·rename_i hb;have:=Zt hw.tm hn;grind [Af.get]
    ·cases hn
   split at h
   ·rename_i n b hn hv;injection h with h;subst h;obtain⟨q1,q2⟩:=tg n hn;rw [hv]at hg;refine⟨by rw [hg];rfl,fun l hl=>?_,by simp⟩;simp only [mem_singleton]at hl;subst hl;exact⟨q1,by show (_==_)=(ju (H.v n)==_);rw [q2,hv];rfl⟩
   ·rename_i n k b hn hv;injection h with h;subst h;obtain⟨q1,q2⟩:=tg n hn;rw [hv]at hg hok;simp only [DV.ok]at hok;refine⟨?_,fun l hl=>?_,by simp⟩
    ·rw [hg];simp only [DV.toV,DC.toC,Bm];cases k<;>grind [Be,Ae7]
    ·rcases mem_cons.1 hl with rfl | hl
     ·exact⟨q1,by show (_==_)=(ju (H.v n)==_);rw [q2,hv];rfl⟩
     grind
   ·cases h
  ·cases h
 ·cases h
def Ahq:DV T->Option Ah
 | .c x=>Le x
 | _=>none
def dop {P:Program} {I:World->Prop} (Γ:List (CE T P I)) (ops:Array Oper) (o:Oper) (st:Af T):M (Af T):=
 match o.guard with
 | none=>match Ck o.op with
   | .rd => .M_ (Mf P [] st o.op) fun v=> .ret (st.put o.dst v)
   | .ef =>vV P st o
   | .call f xs=>gD Γ [] st f xs o.dst
   | .cut x=>match st.arg [] x with
     | some u=>match Ahq u with
       | some id=>match st.frz id with
         | some s=> .M_ (Mf P [] s o.op) fun v=> .ret (s.put o.dst v)
         | none=> .no
       | none=> .M_ (Mf P [] st o.op) fun v=> .ret (st.put o.dst v)
     | none=> .no
   | .no => .no
 | some (j,want)=>match ah st ops j want with
   | some key=>match Ck o.op with
     | .rd => .M_ (Mf P key st o.op) fun v=> .ret (st.put o.dst (.g key v))
     | .call f xs=>gD Γ key st f xs o.dst
     | _=> .no
   | none=> .no
section
variable {H:As T} {P:Program} {I:World->Prop} {Γ:List (CE T P I)} {st:Af T} {ops:Array Oper}
theorem Ml (H:As T) (n:Nat):Fs H n []:=fun _ hl=>by cases hl
theorem Mm (hw:AH H st) {o:Oper} {Φ:Af T->Prop} (h: ∀ v:DV T,v.ok H st.nx->(DZ P st.toSt true o.op).1->(DZ P st.toSt true o.op).2=v.toV->Φ (st.put o.dst v)):Yl (M.M_ (Mf P [] st o.op) fun v=> .ret (st.put o.dst v)) Φ:=
 Yl.M_ (Mg hw (Ml _ _) o.op) fun v hv=>by obtain⟨a,b,c⟩:=hv rfl;exact Yl.ret (h v a b c)
theorem jF (hw:AH H st) (o:Oper):Yl (dop Γ ops o st) (yE H P I ops st o):=by
 unfold dop;split
 ·rename_i hg;have W: ∀ {an:Af T},((∃ H',Nx H st H' an)/\an.pre=st.pre/\ ∀ K:St->Prop,K an.toSt->vm P I o st.toSt K)->yE H P I ops st o an:=fun⟨a,b,c⟩=>⟨a,b,fun K hK=>by unfold fB;rw [hg];exact c K hK⟩;split
  ·rename_i hk;refine Mm hw fun v hv h1 h2=>W ⟨Af.aao hw _ hv,AS _ _ _,fun K hK=> .inr ?_⟩;grind [Af.h_]
  ·rename_i hk;refine(Yz hw o).mono fun an h=>?_;obtain⟨h1,h2,h3,h4⟩:=h;refine W ⟨h1,h4,fun K hK=> .inl fun F a w G Q hI hR=>?_⟩;obtain⟨nx,w',G',q1,q2⟩:=(Sx hR h2).out;unfold Oper.wp Oper.upon;rw [q1];rcases q2 with ⟨v,rfl,q3⟩ | ⟨rfl,q3⟩
   ·exact⟨_,G',hK,q3.less h3⟩
   ·exact⟨_,G',hK,q3.less h3⟩
  ·rename_i f xs hk;exact(we hw hk).mono fun an h=>W h
  ·rename_i x hk;split
   ·rename_i u hx;obtain⟨a1,a2,a3⟩:=Ht hw hx;split
    ·rename_i id ho;have hu:u= .c (.c (.e_ id)):=by unfold Ahq at ho;grind [Es]
     split
     ·rename_i s hs;obtain⟨⟨H1,hN⟩,h2,h3,h4⟩:=Af.agN hw hs;have azK:st.toSt.cutAt true x=s.toSt:=by grind [St.cutAt,DV.toV,DC.toC]
      refine Mm hN.ok fun v hv q1 q2=>W ⟨Af.D_ hN _ hv,by rw [AS];exact h4,fun K hK=> .inr ?_⟩;grind [Af.h_]
     ·exact Yl.no
    ·rename_i ho;have azK:st.toSt.cutAt true x=st.toSt:=by
      unfold St.cutAt;rw [a3];split
      ·rename_i id he;exfalso;cases u with
       | c y=>
         simp only [DV.toV,V.c.injEq]at he;exact Na ho id he
       | _=>simp [DV.toV]at he
      ·rfl
     refine Mm hw fun v hv q1 q2=>W ⟨Af.aao hw _ hv,AS _ _ _,fun K hK=> .inr ?_⟩;grind [Af.h_]
   ·exact Yl.no
  ·exact Yl.no
 ·rename_i j want hg;split
  ·rename_i key an9;obtain⟨g1,g2,g3⟩:=O9 hw an9;have W: ∀ {an:Af T},((∃ H',Nx H st H' an)/\an.pre=st.pre/\ ∀ K:St->Prop,K an.toSt->wpG P I o st.toSt (Be key) K)->yE H P I ops st o an:=fun⟨a,b,c⟩=>⟨a,b,fun K hK=>by unfold fB;rw [hg];simp only [g1];exact c K hK⟩;split
   ·rename_i hk;refine Yl.M_ (Mg hw g2 o.op) fun v hv=>Yl.ret (W ⟨Mk hw g2 _ (fun hc=>(hv hc).1),AS _ _ _,fun K hK=> .inr ?_⟩);rw [hk];refine⟨v.toV,fun hc=>(hv hc).2,?_⟩;grind [Af.h_,DV.toV]
   ·rename_i f xs hk;exact(wg hw hk g2 g3).mono fun an h=>W h
   ·exact Yl.no
  ·exact Yl.no
def Ahr {P:Program} {I:World->Prop} (Γ:List (CE T P I)) (ops:Array Oper):List Oper->Af T->M (Af T)
 | [],st=> .ret st
 | o::rest,st=> .M_ (dop Γ ops o st) fun an=>Ahr Γ ops rest an
theorem AbP: ∀ (l:List Oper) (st:Af T) (H:As T),AH H st->Yl (Ahr Γ ops l st) (fun an=>(∃ H',Nx H st H' an)/\an.pre=st.pre/\ ∀ K:St->Prop,K an.toSt->DN P I ops l st.toSt K)
 | [],st,H,hw=>Yl.ret ⟨⟨H,Nx.refl hw⟩,rfl,fun _ hK=>hK⟩
 | o::rest,st,H,hw=>Yl.M_ (jF hw o) fun s hs=>by obtain⟨⟨H1,h1⟩,h2,h3⟩:=hs;refine(AbP rest s H1 h1.ok).mono fun s' hs'=>?_;obtain⟨⟨H2,k1⟩,k2,k3⟩:=hs';exact⟨⟨H2,h1.trans k1⟩,k2.trans h2,fun K hK=>h3 _ (k3 K hK)⟩
def jG {P:Program} {I:World->Prop} (Γ:List (CE T P I)) (key:List GL) (st:Af T) (f:FuncId) (xs:List Operand):M (DV T):=
 match I7 st key xs with
 | some vs=>match M9 st vs with
   | some ws=>match RB f ws Γ with
     | some ⟨e,x⟩=>Tf (e.rs.all (Vj T)) (.opt (gk key (e.run x)) fun r=> .ret (Vh e.rs r))
     | none=> .no
   | none=> .no
 | none=> .no
def Ae8 {P:Program} {I:World->Prop} (Γ:List (CE T P I)) (ops:Array Oper) (o:Oper) (st:Af T):M (Af T):=
 match o.guard with
 | none=>match Ck o.op with
   | .rd => .M_ (Mf P [] st o.op) fun v=> .ret (st.put o.dst v)
   | .call f xs=> .M_ (jG Γ [] st f xs) fun v=> .ret (st.put o.dst v)
   | .cut _=> .M_ (Mf P [] st o.op) fun v=> .ret (st.put o.dst v)
   | _=> .no
 | some (j,want)=>match ah st ops j want with
   | some key=>match Ck o.op with
     | .rd => .M_ (Mf P key st o.op) fun v=> .ret (st.put o.dst (.g key v))
     | .call f xs=> .M_ (jG Γ key st f xs) fun v=> .ret (st.put o.dst (.g key v))
     | .cut _=> .M_ (Mf P key st o.op) fun v=> .ret (st.put o.dst (.g key v))
     | _=> .no
   | none=> .no
theorem gE {key:List GL} (hw:AH H st) (hk:Fs H st.nx key) {f:FuncId} {xs:List Operand}:
 Yl (jG Γ key st f xs) (fun v=>(∀ n,v.ok H n)/\v.toV.flat=true/\(Be key=true->(st.toSt.args (Be key) xs).1/\Ci ((st.toSt.args (Be key) xs).2.map (BF st.toSt))=true)/\(Be key=true->Cd P I f ((st.toSt.args (Be key) xs).2.map (BF st.toSt)) (· =v.toV))):=by
 unfold jG;split
 ·rename_i vs hvs;split
  ·rename_i ws hws;split
   ·rename_i e x hx;obtain⟨he,hx⟩:=Gk hx;refine Yl.Tf fun hf=>Yl.opt fun r hr=>Yl.ret ?_;have hs:(Bg vs).map (BF st.toSt)=Gf e.ps x:=by rw [GA hws,hx]
    rw [Vk _ hvs,hs,O7];refine⟨fun n=>SR _ _,by rw [Mi];exact hf,fun hc=>⟨(Dg hw hk hc hvs).2.1,Kp _ _⟩,fun hc=>?_⟩;have hp:=e.ok x r (SH hr hc);grind
   ·exact Yl.no
  ·exact Yl.no
 ·exact Yl.no
theorem AbQ (hw:AH H st) (o:Oper):Yl (Ae8 Γ ops o st) (fun an=>(∃ H',Nx H st H' an)/\an.pre=st.pre/\ ∀ K:St->Prop,K an.toSt->wqO P I ops o st.toSt K):=by
 unfold Ae8;split
 ·rename_i hg;have W: ∀ {an:Af T},((∃ H',Nx H st H' an)/\an.pre=st.pre/\ ∀ K:St->Prop,K an.toSt->wq1 P I o st.toSt K)->(∃ H',Nx H st H' an)/\an.pre=st.pre/\ ∀ K:St->Prop,K an.toSt->wqO P I ops o st.toSt K:=(by grind [wqO]);split
  ·rename_i hk;refine Mm hw fun v hv h1 h2=>W ⟨Af.aao hw _ hv,AS _ _ _,fun K hK=>?_⟩;grind [wq1,Af.h_]
  ·rename_i f xs hk;refine Yl.M_ (gE hw (Ml _ _)) fun v hv=>Yl.ret (W ⟨Af.aao hw _ (hv.1 _),AS _ _ _,fun K hK=>?_⟩);obtain⟨q1,q2,q3,q4⟩:=hv;unfold wq1;rw [hk];exact⟨(q3 rfl).1,(q3 rfl).2,v.toV,q2,q4 rfl,by grind [Af.h_]⟩
  ·rename_i x hk;refine Mm hw fun v hv h1 h2=>W ⟨Af.aao hw _ hv,AS _ _ _,fun K hK=>?_⟩;grind [wq1,Af.h_]
  ·exact Yl.no
 ·rename_i j want hg;split
  ·rename_i key an9;obtain⟨g1,g2,g3⟩:=O9 hw an9;have W: ∀ {an:Af T},((∃ H',Nx H st H' an)/\an.pre=st.pre/\ ∀ K:St->Prop,K an.toSt->wqG P I o st.toSt (Be key) K)->(∃ H',Nx H st H' an)/\an.pre=st.pre/\ ∀ K:St->Prop,K an.toSt->wqO P I ops o st.toSt K:=(by simp_all [wqO]);split
   ·rename_i hk;refine Yl.M_ (Mg hw g2 o.op) fun v hv=>Yl.ret (W ⟨Mk hw g2 _ (fun hc=>(hv hc).1),AS _ _ _,fun K hK=>?_⟩);unfold wqG;rw [hk];refine⟨v.toV,fun hc=>(hv hc).2,?_⟩;grind [Af.h_,DV.toV]
   ·rename_i f xs hk;refine Yl.M_ (gE hw g2) fun v hv=>Yl.ret (W ⟨Mk hw g2 _ (fun _=>hv.1 _),AS _ _ _,fun K hK=>?_⟩);grind [wqG,Af.h_,DV.toV]
   ·rename_i x hk;refine Yl.M_ (Mg hw g2 o.op) fun v hv=>Yl.ret (W ⟨Mk hw g2 _ (fun hc=>(hv hc).1),AS _ _ _,fun K hK=>?_⟩);unfold wqG;rw [hk];refine⟨v.toV,fun hc=>(hv hc).2,?_⟩;grind [Af.h_,DV.toV]
   ·exact Yl.no
  ·exact Yl.no
def yF {P:Program} {I:World->Prop} (Γ:List (CE T P I)) (ops:Array Oper):List Oper->Af T->M (Af T)
 | [],st=> .ret st
 | o::rest,st=> .M_ (Ae8 Γ ops o st) fun an=>yF Γ ops rest an
theorem nD: ∀ (l:List Oper) (st:Af T) (H:As T),AH H st->Yl (yF Γ ops l st) (fun an=>(∃ H',Nx H st H' an)/\an.pre=st.pre/\ ∀ K:St->Prop,K an.toSt->fC P I ops l st.toSt K)
 | [],st,H,hw=>Yl.ret ⟨⟨H,Nx.refl hw⟩,rfl,fun _ hK=>hK⟩
 | o::rest,st,H,hw=>Yl.M_ (AbQ hw o) fun s hs=>by obtain⟨⟨H1,h1⟩,h2,h3⟩:=hs;refine(nD rest s H1 h1.ok).mono fun s' hs'=>?_;obtain⟨⟨H2,k1⟩,k2,k3⟩:=hs';exact⟨⟨H2,h1.trans k1⟩,k2.trans h2,fun K hK=>h3 _ (k3 K hK)⟩
end
end Go.PL
namespace Go.PL
open Go Go.RowKit
variable {T:Bo}
def ai (v v':V):Prop:= ∀ (w:World) (G:AG) (u:Value),Ab w G v u->Ab w G v' u
def dl (c c':C):Prop:= ∀ (w:World) (G:AG) (u:Value),Ad w G c u->Ad w G c' u
def Ew:List C->List C->Prop
 | [],[]=>True
 | c::cs,d::ds=>dl c d/\Ew cs ds
 | _,_=>False
theorem dl.refl (c:C):dl c c:=fun _ _ _ h=>h
theorem ai.refl (c:V):ai c c:=fun _ _ _ h=>h
theorem dl.agi {c d:C} (h:Hf c=d):dl c d:=fun _ _ _ hr=>h▸Jx hr
theorem Ew.length: ∀ {cs ds:List C},Ew cs ds->cs.length=ds.length
 | [],[],_=>rfl
 | [],_::_,h=>h.elim
 | _::_,[],h=>h.elim
 | c::cs,d::ds,h=>by simp [Ew.length h.2]
theorem Ew.append: ∀ {a b x y:List C},Ew a b->Ew x y->Ew (a++x) (b++y)
 | [],[],_,_,_,h=>h
 | [],_::_,_,_,h,_=>h.elim
 | _::_,[],_,_,h,_=>h.elim
 | c::cs,d::ds,_,_,h,k=>⟨h.1,Ew.append h.2 k⟩
theorem Ew.agi: ∀ {cs ds:List C},cs.map Hf=ds->Ew cs ds
 | [],ds,h=>by simp at h;subst h;trivial
 | c::cs,ds,h=>by subst h;exact⟨dl.agi rfl,Ew.agi rfl⟩
theorem Ew.refl: ∀ cs:List C,Ew cs cs
 | []=>trivial
 | c::cs=>⟨dl.refl c,Ew.refl cs⟩
theorem An.imp {w:World} {G:AG}: ∀ {cs ds:List C} {b off:Nat},Ew cs ds->An w G cs b off->An w G ds b off
 | [],[],_,_,_,h=>h
 | [],_::_,_,_,h,_=>h.elim
 | _::_,[],_,_,h,_=>h.elim
 | c::cs,d::ds,b,off,h,hr=>by simp only [An]at hr ⊢;obtain⟨⟨v,h1,h2⟩,h3⟩:=hr;exact⟨⟨v,h1,h.1 _ _ _ h2⟩,An.imp h.2 h3⟩
theorem Aj.imp {w:World} {G:AG}: ∀ {cs ds:List C} {vs:List Value},Ew cs ds->Aj w G cs vs->Aj w G ds vs
 | [],[],_,_,h=>h
 | [],_::_,_,h,_=>h.elim
 | _::_,[],_,h,_=>h.elim
 | c::cs,d::ds,[],_,hr=>by simp only [Aj]at hr
 | c::cs,d::ds,v::vs,h,hr=>by simp only [Aj]at hr ⊢;exact⟨h.1 _ _ _ hr.1,Aj.imp h.2 hr.2⟩
structure Wkn (st an:St):Prop where
 len:an.tm.length=st.tm.length
 tm: ∀ i,ai (st.tm.getD i .undef) (an.tm.getD i .undef)
 so: ∀ e'∈an.so,e'∈st.so\/ ∃ cs cs',(⟨e'.id,none,cs,false⟩:Aw)∈st.so/\e'=⟨e'.id,none,cs',false⟩/\Ew cs cs'/\iU cs=false
 nd:(an.so.map (·.id)).Nodup
 gh:an.gh=st.gh
 pre:an.pre=st.pre
theorem R.wkn {F:Fr} {st an:St} {a:Act} {w:World} {G:AG} (h:R F st a w G) (k:Wkn st an):R F an a w G:={
 dfr:=h.dfr
 size:=by rw [k.len];exact h.size
 v_:=fun i=>k.tm i _ _ _ (h.v_ i)
 F_:=by rw [k.gh];exact h.F_
 store:=fun e he=>by
  rcases k.so e he with q | ⟨cs,cs',q1,q2,q3,q4⟩
  ·exact h.store e q
  ·have:=h.store _ q1;rw [q2];simp only [Bc]at this ⊢;obtain⟨b,h1,h2⟩:=this;obtain⟨Ty,cur,h3,h4,h5⟩:=h2.cells q4;exact⟨b,h1, .inr ⟨Ty,cur,h3,by rw [h4,q3.length],h5.imp q3⟩⟩
 deep:=fun e he=>by
  rcases k.so e he with q | ⟨cs,cs',q1,q2,q3,q4⟩
  ·exact h.deep e q
  ·have:=h.deep _ q1;rw [q2];exact⟨this.1,fun hd=>by have:=(this.2 hd).1;cases this⟩
 x_:=fun e he hp=>by
  rcases k.so e he with q | ⟨cs,cs',q1,q2,q3,q4⟩
  ·exact h.x_ e q hp
  grind
 nodup:=k.nd
 inj:=h.inj,lt:=h.lt,new:=h.new,wr:=h.wr,aaS:=h.aaS,inv:=h.inv,aah:=h.aah,os:=h.os,tape:=h.tape,output:=h.output,u_:=h.u_,ext:=h.ext}
theorem Wk.wkn {st an:St} (k:Wkn st an):Wk st an:=fun _ _ _ G hR=>⟨G,hR.wkn k⟩
inductive Sg where
 | v (t:VT)
 | c (x:C)
inductive VSp where
 | c (s:Sg)
 | agg (l:List Sg)
inductive ESp where
 | box (l:List Sg)
 | row (E:Nat)
 | deep (E:Nat)
structure Iq where
 ks:List Nat
 vs:List (Nat×VSp)
 ke:List Ah
 es:List (Ah×ESp)
def Sg.ts:List Sg->List VT
 | []=>[]
 | .v t::r=>t::Sg.ts r
 | .c _::r=>Sg.ts r
def VSp.ts:VSp->List VT
 | .c s=>Sg.ts [s]
 | .agg l=>Sg.ts l
def ESp.ts:ESp->List VT
 | .box l=>Sg.ts l
 | .row E=>[.k (.l_ E)]
 | .deep E=>[.k (.int .i64), .k (.l_ E)]
def Ahs:List (Nat×VSp)->List VT
 | []=>[]
 | (_,p)::r=>p.ts++Ahs r
def Aht:List (Ah×ESp)->List VT
 | []=>[]
 | (_,p)::r=>p.ts++Aht r
def Iq.ts (sh:Iq):List VT:=Ahs sh.vs++Aht sh.es
def okC (x c:C):Bool:=match x,c with
 | .any,_=>true
 | .e_ i, .e_ j=>Bf i j
 | .ptr i o, .ptr j o'=>Bf i j&&Nat.beq o o'
 | .acu, .acu =>true
 | .aak, .aak =>true
 | .held, .held =>true
 | .s_, .s_ =>true
 | .fn f, .fn g=>Nat.beq f g
 | _,_=>false
theorem AbR {x c:C} (h:okC x c=true):dl c x:=by
 unfold okC at h;split at h
 ·intro w G u hr;simp only [Ad];exact hr.one
 all_goals simp_all [AN,dl.refl]
def Lf:List Sg->List (DC T)->Option (List (DV T)×List (DC T))
 | [],cs=>some ([],cs)
 | .c x::r,c::cs=>match okC x c.toC with
   | true=>Lf r cs
   | false=>none
 | .v (.k _)::r,c::cs=>match Lf r cs with
   | some (vs,ds)=>some (.c c::vs,ds)
   | none=>none
 | .v (.s E)::r,cs=>match Nat.ble (T.sz E) cs.length,Lf r (cs.drop (T.sz E))with
   | true,some (vs,ds)=>some (.agg (cs.take (T.sz E))::vs,ds)
   | _,_=>none
 | _,_=>none
def Gl:List Sg->List (DV T)->Option (List (DC T)×List (DV T))
 | [],vs=>some ([],vs)
 | .c x::r,vs=>match Gl r vs with
   | some (cs,us)=>some (.c x::cs,us)
   | none=>none
 | .v _::r, .c y::vs=>match Gl r vs with
   | some (cs,us)=>some (y::cs,us)
   | none=>none
 | .v _::r, .agg ds::vs=>match Gl r vs with
   | some (cs,us)=>some (ds++cs,us)
   | none=>none
 | _::_,_=>none
def WkV (v v':DV T):Prop:=(∃ c c',v= .c c/\v'= .c c'/\Hf c.toC=c'.toC/\c'.ok)\/(∃ cs cs',v= .agg cs/\v'= .agg cs'/\(Ar cs).map Hf=Ar cs'/\Ce cs')
inductive afi {α β:Type} (P:α->β->Prop):List α->List β->Prop
 | nil:afi P [] []
 | cons {a b l m}:P a b->afi P l m->afi P (a::l) (b::m)
theorem afi.ael {α β:Type} {P:α->β->Prop}: ∀ {a b:List α} {m:List β},afi P (a++b) m-> ∃ x y,m=x++y/\afi P a x/\afi P b y
 | [],b,m,h=>⟨[],m,rfl, .nil,h⟩
 | c::a,b,m,h=>by
   cases h with
   | cons h1 h2=>
     obtain⟨x,y,e,p,q⟩:=afi.ael h2;subst e;exact⟨_::x,y,rfl, .cons h1 p,q⟩
theorem Hw: ∀ {l:List Sg} {cs ds:List (DC T)} {vs vs':List (DV T)} {cs':List (DC T)} {us us':List (DV T)},Lf l cs=some (vs,ds)->afi WkV vs vs'->Gl l (vs'++us)=some (cs',us')->
 us'=us/\Ew (Ar cs) (Ar cs'++Ar ds)/\Ce cs'
 | [],cs,ds,vs,vs',cs',us,us',h,hw,hi=>by
   simp only [Lf,injEq,Prod.mk.injEq]at h;obtain⟨rfl,rfl⟩:=h;cases hw
   simp only [Gl,nil_append,injEq,Prod.mk.injEq]at hi;obtain⟨rfl,rfl⟩:=hi;exact⟨rfl,by grind [Ar,Ew.refl],by simp [Ce]⟩
 | .c x::r,c::cs,ds,vs,vs',cs',us,us',h,hw,hi=>by
   simp only [Lf]at h;split at h
   ·rename_i ho;simp only [Gl]at hi;split at hi
    ·rename_i cs1 us1 h1;simp only [injEq,Prod.mk.injEq]at hi;obtain⟨rfl,rfl⟩:=hi;obtain⟨a,b,d⟩:=Hw h hw h1;refine⟨a,?_,by simp_all [Ce,DC.ok]⟩;simp only [Ar,cons_append,DC.toC];exact⟨AbR ho,b⟩
    ·cases hi
   ·cases h
 | .v (.k kd)::r,c::cs,ds,vs,vs',cs',us,us',h,hw,hi=>by
   simp only [Lf]at h;split at h
   ·rename_i vs1 ds1 h1;simp only [injEq,Prod.mk.injEq]at h;obtain⟨rfl,rfl⟩:=h;cases hw with
    | cons p q=>
      rename_i b m;rcases p with ⟨c0,c',e1,e2,e3,e4⟩ | ⟨_,_,e1,_⟩
      ·injection e1 with e1;subst e1 e2;simp only [cons_append,Gl]at hi;split at hi
       ·rename_i cs1 us1 h2;simp only [injEq,Prod.mk.injEq]at hi;obtain⟨rfl,rfl⟩:=hi;obtain⟨a,b,d⟩:=Hw h1 q h2;refine⟨a,?_,by grind [Ce]⟩;simp only [Ar,cons_append];exact⟨dl.agi e3,b⟩
       ·cases hi
      ·cases e1
   ·cases h
 | .v (.s E)::r,cs,ds,vs,vs',cs',us,us',h,hw,hi=>by
   simp only [Lf]at h;split at h
   ·rename_i vs1 ds1 hb h1;simp only [injEq,Prod.mk.injEq]at h;obtain⟨rfl,rfl⟩:=h;cases hw with
    | cons p q=>
      rename_i b m;rcases p with ⟨_,_,e1,_⟩ | ⟨c0,c',e1,e2,e3,e4⟩
      ·cases e1
      ·injection e1 with e1;subst e1 e2;simp only [cons_append,Gl]at hi;split at hi
       ·rename_i cs1 us1 h2;simp only [injEq,Prod.mk.injEq]at hi;obtain⟨rfl,rfl⟩:=hi;obtain⟨a,b,d⟩:=Hw h1 q h2;refine⟨a,?_,C9 e4 d⟩;have e:Ar cs=Ar (cs.take (T.sz E))++Ar (cs.drop (T.sz E)):=by rw [<-CQ,List.take_append_drop]
        rw [e,CQ,append_assoc];exact(Ew.agi e3).append b
       ·cases hi
   ·cases h
 | .c _::_,[],_,_,_,_,_,_,h,_,_=>by simp [Lf]at h
 | .v (.k _)::_,[],_,_,_,_,_,_,h,_,_=>by simp [Lf]at h
 | .v (.f _)::_,_,_,_,_,_,_,_,h,_,_=>by simp [Lf]at h
def Ae9:VSp->DV T->Option (List (DV T))
 | .c s, .c x=>match Lf [s] [x]with
   | some (vs,[])=>some vs
   | _=>none
 | .agg l, .agg cs=>match Lf l cs with
   | some (vs,[])=>some vs
   | _=>none
 | _,_=>none
def wh:VSp->List (DV T)->Option (DV T×List (DV T))
 | .c s,vs=>match Gl [s] vs with
   | some ([c],us)=>some (.c c,us)
   | _=>none
 | .agg l,vs=>match Gl l vs with
   | some (cs,us)=>some (.agg cs,us)
   | none=>none
theorem wi {p:VSp} {v:DV T} {vs vs' us us':List (DV T)} {v':DV T} (h:Ae9 p v=some vs) (hw:afi WkV vs vs') (hi:wh p (vs'++us)=some (v',us')):us'=us/\ai v.toV v'.toV:=by
 unfold Ae9 at h;split at h
 ·rename_i s x;split at h
  ·rename_i vs1 h1;injection h with h;subst h;simp only [wh]at hi;split at hi
   ·rename_i c us1 h2;simp only [injEq,Prod.mk.injEq]at hi;obtain⟨rfl,rfl⟩:=hi;obtain⟨a,b,d⟩:=Hw h1 hw h2;refine⟨a,?_⟩;simp only [Ar,append_nil,Ew,and_true]at b;intro w G u hr;simp only [DV.toV,Ab]at hr ⊢;exact b _ _ _ hr
   ·cases hi
  ·cases h
 ·rename_i l cs;split at h
  ·rename_i vs1 h1;injection h with h;subst h;simp only [wh]at hi;split at hi
   ·rename_i c us1 h2;simp only [injEq,Prod.mk.injEq]at hi;obtain⟨rfl,rfl⟩:=hi;obtain⟨a,b,d⟩:=Hw h1 hw h2;refine⟨a,?_⟩;simp only [Ar,append_nil]at b;intro w G u hr;simp only [DV.toV,Ab]at hr ⊢;obtain⟨arr,e,hr⟩:=hr;exact⟨arr,e,hr.imp b⟩
   ·cases hi
  ·cases h
 ·cases h
def wj (v:DV T):Prop:= ∀ (H:As T) (n:Nat),v.ok H n
theorem Mn: ∀ {l:List Sg} {vs us:List (DV T)} {cs:List (DC T)},(∀ v∈vs,wj v)->Gl l vs=some (cs,us)->Ce cs/\ ∀ v∈us,wj v
 | [],vs,us,cs,hv,h=>by simp only [Gl,injEq,Prod.mk.injEq]at h;obtain⟨rfl,rfl⟩:=h;grind [Ce]
 | .c x::r,vs,us,cs,hv,h=>by
   simp only [Gl]at h;split at h
   ·rename_i cs1 us1 h1;simp only [injEq,Prod.mk.injEq]at h;obtain⟨rfl,rfl⟩:=h;obtain⟨a,b⟩:=Mn hv h1;simp_all [Ce,DC.ok]
   ·cases h
 | .v t::r,vs,us,cs,hv,h=>by
   match vs,hv,h with
   | .c y::vs,hv,h=>
     simp only [Gl]at h;split at h
     ·rename_i cs1 us1 h1;simp only [injEq,Prod.mk.injEq]at h;obtain⟨rfl,rfl⟩:=h;obtain⟨a,b⟩:=Mn (fun v hm=>hv v (by simp [hm])) h1;have:=hv (.c y) (by simp) ⟨fun _=> .u,fun _=>⟨[],0, .box []⟩⟩ 0;simp only [DV.ok]at this;exact⟨by simp only [Ce];exact⟨this,a⟩,b⟩
     ·cases h
   | .agg ds::vs,hv,h=>
     simp only [Gl]at h;split at h
     ·rename_i cs1 us1 h1;simp only [injEq,Prod.mk.injEq]at h;obtain⟨rfl,rfl⟩:=h;obtain⟨a,b⟩:=Mn (fun v hm=>hv v (by simp [hm])) h1;have:=hv (.agg ds) (by simp) ⟨fun _=> .u,fun _=>⟨[],0, .box []⟩⟩ 0;simp only [DV.ok]at this;exact⟨C9 this a,b⟩
     ·cases h
   | [],_,h=>simp [Gl]at h
   | .tup _::_,_,h=>simp [Gl]at h
   | .g _ _::_,_,h=>simp [Gl]at h
   | .u ::_,_,h=>simp [Gl]at h
theorem AbT {p:VSp} {vs us:List (DV T)} {v:DV T} (hv: ∀ v∈vs,wj v) (h:wh p vs=some (v,us)):wj v/\ ∀ v∈us,wj v:=by
 unfold wh at h;split at h
 ·split at h
  ·rename_i c us1 h1;simp only [injEq,Prod.mk.injEq]at h;obtain⟨rfl,rfl⟩:=h;obtain⟨a,b⟩:=Mn hv h1;simp only [Ce,and_true]at a;exact⟨fun H n=>by simp only [DV.ok];exact a,b⟩
  ·cases h
 ·split at h
  ·rename_i c us1 h1;simp only [injEq,Prod.mk.injEq]at h;obtain⟨rfl,rfl⟩:=h;obtain⟨a,b⟩:=Mn hv h1;exact⟨fun H n=>by simp only [DV.ok];exact a,b⟩
  ·cases h
end Go.PL
namespace Go.PL
open Go Go.RowKit
variable {T:Bo}
def jH (kd:Kd) (v:DV T):Option (P6 T.den kd):=match asC v with
 | some x=>Ij true kd x
 | none=>none
def jI (E:Nat) (v:DV T):Option (T.den E):=match asA v with
 | some cs=>xp true E cs
 | none=>none
def aj:(t:VT)->DV T->Option (Eu T t)
 | .k kd,v=>jH kd v
 | .s E,v=>jI E v
 | .f _,_=>none
theorem jJ {kd:Kd} {v:DV T} {x:P6 T.den kd} (h:jH kd v=some x):WkV v (.c (.k kd x)):=by
 unfold jH at h;split at h
 ·rename_i y hy;exact .inl ⟨y,_,Z2 hy,rfl,(CB h).1,by simp only [DC.ok]⟩
 ·cases h
theorem jK {E:Nat} {v:DV T} {x:T.den E} (h:jI E v=some x):WkV v (.agg (jv E x)):=by
 unfold jI at h;split at h
 ·rename_i y hy;exact .inr ⟨y,_,Z3 hy,rfl,by grind [Gz,Ik],M6 E x⟩
 ·cases h
theorem Xd {t:VT} {v:DV T} {x:Eu T t} (h:aj t v=some x):WkV v (QN t x):=by
 cases t with
 | k kd=>exact jJ h
 | s E=>exact jK h
 | f g=>cases h
def tW {α β:Type}:Option α->Option β->Option (α×β)
 | some x,some y=>some (x,y)
 | _,_=>none
theorem rr {α β:Type} {a:Option α} {b:Option β} {x:α×β} (h:tW a b=some x):a=some x.1/\b=some x.2:=by
 cases a<;>cases b<;>simp [tW]at h
 grind
def jL:(ts:List VT)->List (DV T)->Option (RT T ts)
 | [],[]=>some ()
 | [t],[v]=>aj t v
 | t::u::ts,v::vs=>tW (aj t v) (jL (u::ts) vs)
 | _,_=>none
theorem Xe: ∀ {ts:List VT} {vs:List (DV T)} {x:RT T ts},jL ts vs=some x->afi WkV vs (CC ts x)
 | [],[],x,_=> .nil
 | [],_::_,x,h=>by cases (show (none:Option (RT T []))=some x from h)
 | [t],[v],x,h=> .cons (Xd (show aj t v=some x from h)) .nil
 | [t],[],x,h=>by cases (show (none:Option (RT T [t]))=some x from h)
 | [t],v::w::vs,x,h=>by cases (show (none:Option (RT T [t]))=some x from h)
 | t::u::ts,[],x,h=>by cases (show (none:Option (RT T (t::u::ts)))=some x from h)
 | t::u::ts,v::vs,x,h=>by obtain⟨h1,h2⟩:=rr (show tW (aj t v) (jL (u::ts) vs)=some x from h);exact .cons (Xd h1) (Xe h2)
theorem Ex (ts:List VT) (x:RT T ts): ∀ v∈CC ts x,wj v:=fun v hv H n=>OW.1 (Vi (H:=H) (nx:=n) ts x) v hv
def Pa (tm:Tm T):List (Nat×VSp)->Option (List (DV T))
 | []=>some []
 | (s,p)::r=>match Ae9 p (lk tm s),Pa tm r with
   | some a,some b=>some (a++b)
   | _,_=>none
def Ir:List (Nat×VSp)->List (DV T)->Af T->Option (Af T×List (DV T))
 | [],vs,st=>some (st,vs)
 | (s,p)::r,vs,st=>match wh p vs with
   | some (v,us)=>Ir r us (st.put (some s) v)
   | none=>none
theorem Lg {H:As T} {st0:Af T}: ∀ {l:List (Nat×VSp)} {vs us:List (DV T)} {st an:Af T} {H1:As T},Nx H st0 H1 st->(∀ v∈vs,wj v)->Ir l vs st=some (an,us)->
 (∃ H',Nx H st0 H' an)/\(∀ v∈us,wj v)/\an.so=st.so/\an.gh=st.gh/\an.pre=st.pre/\an.m=st.m
 | [],vs,us,st,an,H1,hn,hv,h=>by simp only [Ir,injEq,Prod.mk.injEq]at h;grind
 | (s,p)::r,vs,us,st,an,H1,hn,hv,h=>by
   simp only [Ir]at h;split at h
   ·rename_i v us1 h1;obtain⟨a,b⟩:=AbT hv h1;obtain⟨H2,h2⟩:=Af.D_ hn (some s) (a H1 _);obtain⟨c1,c2,c3,c4,c5,c6⟩:=Lg h2 b h;exact⟨c1,c2,c3,c4,c5,c6⟩
   ·cases h
theorem yG (st:Af T) (s i:Nat) (v:DV T):lk (st.put (some s) v).tm i=if s=i then v else lk st.tm i:=by
 simp only [Af.put,lk];by_cases h:s=i
 ·simp_all
 ·rw [if_neg h];grind [eq_of_beq_eq_true]
theorem gF {tm:Tm T}: ∀ {l:List (Nat×VSp)} {vs vs' us us':List (DV T)} {st an:Af T},Pa tm l=some vs->afi WkV vs vs'->Ir l (vs'++us) st=some (an,us')->(∀ i,ai (lk tm i).toV (lk st.tm i).toV)->
 us'=us/\ ∀ i,ai (lk tm i).toV (lk an.tm i).toV
 | [],vs,vs',us,us',st,an,h,hw,hi,hs=>by
   simp only [Pa,injEq]at h;subst h;cases hw
   simp only [Ir,nil_append,injEq,Prod.mk.injEq]at hi;grind
 | (s,p)::r,vs,vs',us,us',st,an,h,hw,hi,hs=>by
   simp only [Pa]at h;split at h
   ·rename_i a b h1 h2;injection h with h;subst h;obtain⟨x,y,rfl,k1,k2⟩:=afi.ael hw;simp only [Ir]at hi;split at hi
    ·rename_i v us1 h3;rw [append_assoc]at h3;obtain⟨e,hv⟩:=wi h1 k1 h3;subst e;refine gF h2 k2 hi fun i=>?_;rw [yG];split
     ·rename_i e;subst e;exact hv
     ·exact hs i
    ·cases hi
   ·cases h
def Afa (l:List (DE T)) (id:Ah) (p:ESp):Option (List (DV T)):=match Hg l id,p with
 | some e, .box sg=>match e.x with
   | .box cs=>match tM cs,Lf sg cs with
     | false,some (vs,[])=>some vs
     | _,_=>none
   | _=>none
 | some e, .row E0=>match e.x with
   | .row E l=>match Nat.beq E E0 with
     | true=>some [.c (.k (.l_ E) l)]
     | false=>none
   | _=>none
 | some e, .deep E0=>match e.x with
   | .deep E n l none=>match Nat.beq E E0 with
     | true=>some [.c (.k (.int .i64) n), .c (.k (.l_ E) l)]
     | false=>none
   | _=>none
 | none,_=>none
def rt:ESp->List (DV T)->Option (DX T×List (DV T))
 | .box sg,vs=>match Gl sg vs with
   | some (cs,us)=>some (.box cs,us)
   | none=>none
 | .row E0, .c (.k (.l_ E) l)::vs=>match Nat.beq E E0 with
   | true=>some (.row E l,vs)
   | false=>none
 | .deep E0, .c (.k (.int .i64) n):: .c (.k (.l_ E) l)::vs=>match Nat.beq E E0 with
   | true=>some (.deep E n l none,vs)
   | false=>none
 | _,_=>none
def dnC (T:Bo):Kd->C->C
 | .l_ F, .sl n cs=> .isl F (T.sz F) n cs
 | _,c=>c
def Afb (T:Bo):List Kd->List C->List C
 | k::ks,c::cs=>dnC T k c::Afb T ks cs
 | _,_=>[]
theorem ak: ∀ (ks:List Kd) (y:DK T.den ks),BR T ks y=Afb T ks (BG T.enc ks y)
 | [],_=>rfl
 | k::ks,y=>by simp only [BR,BG,Afb];rw [ak ks y.2];cases k<;>rfl
theorem AbU {E:Nat} {x y:T.den E} (h:T.enc E x=T.enc E y):T.aa4 E x=T.aa4 E y:=by unfold Bo.aa4;rw [ak,ak,T.aa2,T.aa2,h]
theorem gG {E:Nat} {n:Int}: ∀ {l m:List (T.den E)} {k:Int},l.length=m.length->l.flatMap (T.enc E)=m.flatMap (T.enc E)->AC T E n k l=AC T E n k m
 | [],[],_,_,_=>rfl
 | [],_::_,_,h,_=>by simp at h
 | _::_,[],_,h,_=>by simp at h
 | x::l,y::m,k,h,q=>by simp only [flatMap_cons]at q;obtain⟨q1,q2⟩:=List.append_inj q (by rw [AQ,AQ]);simp only [AC];rw [q1,AbU q1,gG (by simpa using h) q2]
def ST (l:List (DE T)):List (Ah×ESp)->Option (List (DV T))
 | []=>some []
 | (id,p)::r=>match Afa l id p,ST l r with
   | some a,some b=>some (a++b)
   | _,_=>none
def Af.asG (st:Af T) (id:Ah) (x:DX T):Af T:={st with so:=⟨id,st.nx,x⟩::st.so,nx:=st.nx+1}
def nE (id:Ah):List (DE T)->Bool
 | []=>false
 | e::r=>match Bf e.id id with
   | true=>true
   | false=>nE id r
theorem al {id:Ah}: ∀ {l:List (DE T)},nE id l=false-> ∀ e∈l,e.id ≠ id
 | [],_,_,h=>by cases h
 | a::r,h,e,he=>by
   unfold nE at h;split at h
   ·cases h
   ·rename_i hb;rcases mem_cons.1 he with rfl | he
    ·intro q;rw [AN.2 q]at hb;cases hb
    ·exact al h e he
def Jj:List (Ah×ESp)->List (DV T)->Af T->Option (Af T×List (DV T))
 | [],vs,st=>some (st,vs)
 | (id,p)::r,vs,st=>match rt p vs,nE id st.so with
   | some (x,us),false=>Jj r us (st.asG id x)
   | _,_=>none
theorem AbV {p:ESp} {vs us:List (DV T)} {x:DX T} (hv: ∀ v∈vs,wj v) (h:rt p vs=some (x,us)):x.ok/\ ∀ v∈us,wj v:=by
 unfold rt at h;split at h
 ·split at h
  ·rename_i cs us1 h1;simp only [injEq,Prod.mk.injEq]at h;obtain⟨rfl,rfl⟩:=h;exact Mn hv h1
  ·cases h
 ·split at h
  ·simp only [injEq,Prod.mk.injEq]at h;obtain⟨rfl,rfl⟩:=h;exact⟨trivial,(by grind)⟩
  ·cases h
 ·split at h
  ·simp only [injEq,Prod.mk.injEq]at h;obtain⟨rfl,rfl⟩:=h;exact⟨trivial,(by grind)⟩
  ·cases h
 ·cases h
theorem AbW {H H1:As T} {st0 st:Af T} (hn:Nx H st0 H1 st) {id:Ah} {x:DX T} (hx:x.ok) (hid:nE id st.so=false): ∃ H',Nx H st0 H' (st.asG id x):=by
 have he:=C6.Tl H1 st.nx ⟨id,st.nx,x⟩;refine⟨H1.Tl st.nx ⟨id,st.nx,x⟩,hn.trans ⟨he,le_succ _,?_,?_,?_,?_⟩⟩
 ·exact BY he (le_succ _) hn.ok.tm
 ·exact fun f hf=>BY he (le_succ _) (hn.ok.gh f hf)
 ·intro e hm;rcases mem_cons.1 hm with rfl | hm
  ·exact⟨Nat.lt_succ_self _,by simp [As.Tl],hx⟩
  ·exact Fu he (le_succ _) hn.ok.so e hm
 ·simp only [Af.asG,map_cons];refine nodup_cons.2 ⟨fun hm=>?_,hn.ok.nd⟩;grind [al]
theorem Nb {H:As T} {st0:Af T}: ∀ {l:List (Ah×ESp)} {vs us:List (DV T)} {st an:Af T} {H1:As T},Nx H st0 H1 st->(∀ v∈vs,wj v)->Jj l vs st=some (an,us)->
 (∃ H',Nx H st0 H' an)/\an.tm=st.tm/\an.gh=st.gh/\an.pre=st.pre/\an.m=st.m
 | [],vs,us,st,an,H1,hn,hv,h=>by simp only [Jj,injEq,Prod.mk.injEq]at h;grind
 | (id,p)::r,vs,us,st,an,H1,hn,hv,h=>by
   simp only [Jj]at h;split at h
   ·rename_i x us1 h1 h2;obtain⟨a,b⟩:=AbV hv h1;obtain⟨H2,h3⟩:=AbW hn a h2;obtain⟨c1,c2,c3,c4,c5⟩:=Nb h3 b h;exact⟨c1,c2,c3,c4,c5⟩
   ·cases h
def AbX (l:List (DE T)) (e':DE T):Prop:=e'.toE∈l.map DE.toE\/ ∃ cs cs',(⟨e'.id,none,cs,false⟩:Aw)∈l.map DE.toE/\e'.toE=⟨e'.id,none,cs',false⟩/\Ew cs cs'/\iU cs=false
theorem wl {l:List (DE T)} {id:Ah} {p:ESp} {vs vs' us us':List (DV T)} {x:DX T} (h:Afa l id p=some vs) (hw:afi WkV vs vs') (hi:rt p (vs'++us)=some (x,us')) (t:Nat):us'=us/\AbX l ⟨id,t,x⟩:=by
 unfold Afa at h;split at h
 ·rename_i e sg he;obtain⟨m1,m2,_⟩:=CY he;split at h
  ·rename_i cs hx;split at h
   ·rename_i vs1 hm h1;injection h with h;subst h;simp only [rt]at hi;split at hi
    ·rename_i cs' us1 h2;simp only [injEq,Prod.mk.injEq]at hi;obtain⟨rfl,rfl⟩:=hi;obtain⟨a,b,d⟩:=Hw h1 hw h2;simp only [Ar,append_nil]at b;refine⟨a, .inr ⟨Ar cs,Ar cs',(by grind [DE.toE_box]),rfl,b,(by grind [fX,xZ])⟩⟩
    ·cases hi
   ·cases h
  ·cases h
 ·rename_i e E0 he;obtain⟨m1,m2,_⟩:=CY he;split at h
  ·rename_i E l' hx;split at h
   ·rename_i hE;have hE:=eq_of_beq_eq_true hE;subst hE;injection h with h;subst h;cases hw with
    | cons k1 k2=>
      cases k2
      rcases k1 with ⟨c,c',e1,e2,e3,e4⟩ | ⟨_,_,e1,_⟩
      ·injection e1 with e1;subst e1 e2;simp only [cons_append,nil_append]at hi;unfold rt at hi;split at hi
       ·grind
       ·rename_i E0 E' l'' vs0 q1 q2;injection q1 with q1;subst q1;injection q2 with q2 q3;injection q2 with q2;subst q2 q3;split at hi
        ·rename_i hE;have hE:=eq_of_beq_eq_true hE;subst hE;simp only [injEq,Prod.mk.injEq]at hi;obtain⟨rfl,rfl⟩:=hi;refine⟨rfl, .inl (mem_map.2 ⟨e,m1,?_⟩)⟩;grind [DC.toC,Bm,Hf,DE.toE]
        ·cases hi
       all_goals grind
      ·cases e1
   ·cases h
  ·cases h
 ·rename_i e E0 he;obtain⟨m1,m2,_⟩:=CY he;split at h
  ·rename_i E n l' hx;split at h
   ·rename_i hE;have hE:=eq_of_beq_eq_true hE;subst hE;injection h with h;subst h;cases hw with
    | cons k1 k2=>
      cases k2 with
      | cons k3 k4=>
        cases k4
        rcases k1 with ⟨c,c',e1,e2,e3,e4⟩ | ⟨_,_,e1,_⟩
        ·rcases k3 with ⟨d,d',f1,f2,f3,f4⟩ | ⟨_,_,f1,_⟩
         ·injection e1 with e1;injection f1 with f1;subst e1 e2 f1 f2;simp only [cons_append,nil_append]at hi;unfold rt at hi;split at hi
          ·grind
          ·grind
          ·rename_i E1 n' E2 l'' vs0 q1 q2;injection q1 with q1;subst q1;injection q2 with q2 q3;injection q2 with q2;injection q3 with q3 q4;injection q3 with q3;subst q2 q3 q4;split at hi
           ·rename_i hE;have hE:=eq_of_beq_eq_true hE;subst hE;simp only [injEq,Prod.mk.injEq]at hi;obtain⟨rfl,rfl⟩:=hi;refine⟨rfl, .inl (mem_map.2 ⟨e,m1,?_⟩)⟩;grind [DC.toC,Bm,Hf,DE.toE,Bq,gG]
           ·cases hi
          ·cases hi
         ·cases f1
        ·cases e1
   ·cases h
  ·cases h
 ·cases h
end Go.PL
namespace Go.PL
open Go Go.RowKit
variable {T:Bo}
theorem nF {L:List (DE T)}: ∀ {l:List (Ah×ESp)} {vs vs' us us':List (DV T)} {st an:Af T},ST L l=some vs->afi WkV vs vs'->Jj l (vs'++us) st=some (an,us')->(∀ e∈st.so,AbX L e)->
 us'=us/\ ∀ e∈an.so,AbX L e
 | [],vs,vs',us,us',st,an,h,hw,hi,hs=>by
   simp only [ST,injEq]at h;subst h;cases hw
   simp only [Jj,nil_append,injEq,Prod.mk.injEq]at hi;grind
 | (id,p)::r,vs,vs',us,us',st,an,h,hw,hi,hs=>by
   simp only [ST]at h;split at h
   ·rename_i a b h1 h2;injection h with h;subst h;obtain⟨x,y,rfl,k1,k2⟩:=afi.ael hw;simp only [Jj]at hi;split at hi
    ·rename_i v us1 h3 h4;rw [append_assoc]at h3;obtain⟨e,hv⟩:=wl h1 k1 h3 st.nx;subst e;refine nF h2 k2 hi fun e he=>?_;rcases mem_cons.1 he with rfl | he
     all_goals grind
    ·cases hi
   ·cases h
def Hx (ks:List Nat):Tm T->Tm T
 | []=>[]
 | (s,t,v)::r=>match Ke ks s with
   | true=>(s,t,v)::Hx ks r
   | false=>Hx ks r
def RC:List Ah->Ah->Bool
 | [],_=>false
 | a::l,b=>match Bf a b with
   | true=>true
   | false=>RC l b
def RD (ke:List Ah):List (DE T)->List (DE T)
 | []=>[]
 | e::r=>match RC ke e.id with
   | true=>e::RD ke r
   | false=>RD ke r
theorem Nc {ks:List Nat}: ∀ {tm:Tm T} {x:Nat×Nat×DV T},x∈Hx ks tm->x∈tm
 | [],_,h=>h
 | (s,t,v)::r,x,h=>by
   unfold Hx at h;split at h
   ·rcases mem_cons.1 h with rfl | h
    ·simp
    ·simp [Nc h]
   ·simp [Nc h]
theorem P9 {ks:List Nat} (i:Nat): ∀ tm:Tm T,lk (Hx ks tm) i=(match Ke ks i with | true=>lk tm i | false=> .u)
 | []=>by cases Ke ks i<;>rfl
 | (s,t,v)::r=>by
   have ih:=P9 (ks:=ks) i r;unfold Hx;cases hs:Ke ks s with
   | true=>
     simp only [lk];cases hb:Nat.beq s i with
     | true=>
       have:=eq_of_beq_eq_true hb;subst this;rw [hs]
     | false=>exact ih
   | false=>
     simp only;rw [ih];cases hi:Ke ks i with
     | true=>
       simp only [lk];cases hb:Nat.beq s i with
       | true=>
         have:=eq_of_beq_eq_true hb;subst this;rw [hs]at hi;cases hi
       | false=>rfl
     | false=>rfl
theorem RE {b:Ah}: ∀ {l:List Ah},RC l b=true↔b∈l
 | []=>by simp [RC]
 | a::l=>by
   unfold RC;cases h:Bf a b with
   | true=>have:=AN.1 h;subst this;simp
   | false=>
     have:b ≠ a:=fun e=>by rw [AN.2 e.symm]at h;cases h
     simp [RE (l:=l),this]
theorem Hy (ke:List Ah): ∀ l:List (DE T),(RD ke l).Sublist l/\ ∀ e∈RD ke l,e.id∈ke
 | []=>⟨List.Sublist.slnil,fun _ h=>by cases h⟩
 | e::r=>by
   obtain⟨a,b⟩:=Hy ke r;unfold RD;split
   ·rename_i h;refine⟨a.cons_cons _,fun x hx=>?_⟩;rcases mem_cons.1 hx with rfl | hx
    all_goals grind [RE]
   grind
def Iq.base (sh:Iq) (st:Af T):Af T:={st with tm:=Hx sh.ks st.tm,so:=RD sh.ke st.so}
theorem Iq.agP {H:As T} (sh:Iq) {st:Af T} (h:AH H st):Nx H st H (sh.base st):=
 ⟨C6.refl _ _,le_refl _,fun s t v hm=>h.tm s t v (Nc hm),h.gh,fun e he=>h.so e ((Hy _ _).1.subset he),List.Sublist.nodup ((Hy _ _).1.map _) h.nd⟩
def Iq.inst (sh:Iq) (st:Af T) (vs:List (DV T)):Option (Af T):=match Ir sh.vs vs (sh.base st)with
 | some (s,us)=>match Jj sh.es us s with
   | some (s',_)=>some s'
   | none=>none
 | none=>none
theorem Iq.afs {H:As T} {sh:Iq} {st s':Af T} (h:AH H st) {vs:List (DV T)} (hv: ∀ v∈vs,wj v) (hi:sh.inst st vs=some s'): ∃ H',Nx H st H' s':=by
 unfold Iq.inst at hi;split at hi
 ·rename_i s us h1;split at hi
  ·rename_i s2 us2 h2;injection hi with hi;subst hi;obtain⟨⟨H1,a⟩,b,_⟩:=Lg (sh.agP h) hv h1;exact(Nb a b h2).1
  ·cases hi
 ·cases hi
def tX (ks:List Nat) (tm tm0:Tm T):Bool:=match ks with
 | []=>true
 | s::r=>match Nat.beq (Zs tm s) (Zs tm0 s)with
   | true=>tX r tm tm0
   | false=>false
def tY (ke:List Ah) (l l0:List (DE T)):Bool:=match ke with
 | []=>true
 | i::r=>match Hg l i,Hg l0 i with
   | some a,some b=>match Nat.beq a.tag b.tag with
     | true=>tY r l l0
     | false=>false
   | _,_=>false
def wm:Tm T->Tm T->Bool
 | [],[]=>true
 | (s,t,_)::r,(s',t',_)::r'=>match Nat.beq s s'&&Nat.beq t t' with
   | true=>wm r r'
   | false=>false
 | _,_=>false
def wn:List (Nat×Tm T)->List (Nat×Tm T)->Bool
 | [],[]=>true
 | (m,tm)::r,(m',tm')::r'=>match Nat.beq m m'&&wm tm tm' with
   | true=>wn r r'
   | false=>false
 | _,_=>false
theorem am: ∀ {ks:List Nat} {tm tm0:Tm T},tX ks tm tm0=true-> ∀ s,Ke ks s=true->Zs tm s=Zs tm0 s
 | [],_,_,_,s,hs=>by simp [Ke]at hs
 | a::r,tm,tm0,h,s,hs=>by
   unfold tX at h;split at h
   ·rename_i hb;rw [Fq]at hs;rcases mem_cons.1 hs with rfl | hs
    ·exact eq_of_beq_eq_true hb
    ·exact am h s (Fq.2 hs)
   ·cases h
theorem ao: ∀ {ke:List Ah} {l l0:List (DE T)},tY ke l l0=true-> ∀ i∈ke, ∃ a b,Hg l i=some a/\Hg l0 i=some b/\a.tag=b.tag
 | [],_,_,_,i,hi=>by cases hi
 | k::r,l,l0,h,i,hi=>by
   unfold tY at h;split at h
   ·rename_i a b h1 h2;split at h
    ·rename_i hb;rcases mem_cons.1 hi with rfl | hi
     ·simp_all
     ·exact ao h i hi
    ·cases h
   ·cases h
theorem gH {H H':As T} {n n':Nat} (he:C6 n H H'): ∀ {tm tm':Tm T},wm tm' tm=true->Ro H n tm->Ro H' n' tm'->tm'=tm
 | [],[],_,_,_=>rfl
 | [],_::_,h,_,_=>by simp [wm]at h
 | _::_,[],h,_,_=>by simp [wm]at h
 | (s,t,v)::r,(s',t',v')::r',h,a,b=>by
   unfold wm at h;split at h
   ·rename_i hb;simp only [and_eq_true,beq_eq]at hb;obtain⟨rfl,rfl⟩:=hb;obtain⟨a1,a2,_⟩:=a s' t' v (by simp);obtain⟨_,b2,_⟩:=b s' t' v' (by simp);have:v'=v:=by rw [<-a2, <-b2,(he t' a1).1]
    subst this;rw [gH he h (fun s t v hm=>a s t v (by simp [hm])) (fun s t v hm=>b s t v (by simp [hm]))]
   ·cases h
theorem gI {H H':As T} {n n':Nat} (he:C6 n H H'): ∀ {l l':List (Nat×Tm T)},wn l' l=true->(∀ f∈l,Ro H n f.2)->(∀ f∈l',Ro H' n' f.2)->l'=l
 | [],[],_,_,_=>rfl
 | [],_::_,h,_,_=>by simp [wn]at h
 | _::_,[],h,_,_=>by simp [wn]at h
 | (m,tm)::r,(m',tm')::r',h,a,b=>by
   unfold wn at h;split at h
   ·rename_i hb;simp only [and_eq_true,beq_eq]at hb;obtain⟨rfl,hb⟩:=hb;rw [gH he hb (by simp_all) (b (m',tm') (by simp)),gI he h (by grind) (fun f hm=>b f (by simp [hm]))]
   ·cases h
def FV:List Ah->Af T->Af T
 | [],st=>st
 | i::r,st=>match st.frz i with
   | some s=>FV r s
   | none=>FV r st
theorem Gm {H0:As T} {st0:Af T}: ∀ {l:List Ah} {st:Af T} {H:As T},Nx H0 st0 H st->(∃ H',Nx H0 st0 H' (FV l st))/\Wk st.toSt (FV l st).toSt
 | [],st,H,h=>⟨⟨H,h⟩,Wk.less (Cp.refl _)⟩
 | i::r,st,H,h=>by
   unfold FV;split
   ·rename_i s hs;obtain⟨⟨H1,a⟩,b,_⟩:=Af.agN h.ok hs;obtain⟨c,d⟩:=Gm (l:=r) (h.trans a);grind [Wk.trans,Wk.frz]
   ·exact Gm (l:=r) h
def Ad7:List (Ah×ESp)->List Ah
 | []=>[]
 | (i,_)::r=>i::Ad7 r
def yH (tm:Tm T):List (Nat×VSp)->List Ah
 | []=>[]
 | (s,_)::r=>tV (lk tm s)++yH tm r
def jM (l:List (DE T)):List (Ah×ESp)->List Ah
 | []=>[]
 | (i,_)::r=>match Hg l i with
   | some e=>match e.x with
     | .box cs=>gC cs++jM l r
     | _=>jM l r
   | none=>jM l r
def yI (l:List Ah):List Ah->List Ah
 | []=>[]
 | i::r=>match RC l i with
   | true=>yI l r
   | false=>i::yI l r
def Iq.frz (sh:Iq) (st:Af T):List Ah:=yI (sh.ke++Ad7 sh.es) (yH st.tm sh.vs++jM st.so sh.es)
def Iq.asq (sh:Iq) (st0 s:Af T):Option (RT T sh.ts):=
 match tX sh.ks s.tm st0.tm&&(tY sh.ke s.so st0.so&&(wn s.gh st0.gh&&(Nat.beq s.m st0.m&&Bf s.pre st0.pre)))with
 | true=>match Pa s.tm sh.vs,ST s.so sh.es with
   | some a,some b=>jL sh.ts (a++b)
   | _,_=>none
 | false=>none
def Iq.gen (sh:Iq) (st0 an:Af T):Option (RT T sh.ts):=sh.asq st0 (FV (sh.frz an) an)
theorem jN {l:List (DE T)} (hn:(l.map DE.id).Nodup): ∀ {e:DE T},e∈l->Hg l e.id=some e:=by
 induction l with
 | nil=>grind
 | cons a r ih=>
   intro e h;rw [map_cons]at hn;obtain⟨n1,n2⟩:=nodup_cons.1 hn;unfold Hg;split
   ·rename_i hb;have hb:=AN.1 hb;grind
   ·rename_i hb;rcases mem_cons.1 h with rfl | h
    ·rw [AN.2 rfl]at hb;cases hb
    grind
theorem Iq.apV {H H':As T} {sh:Iq} {st0 s s1:Af T} (h0:AH H st0) (hN:Nx H st0 H' s) {x:RT T sh.ts} (hg:sh.asq st0 s=some x) (hi:sh.inst st0 (CC sh.ts x)=some s1):Wkn s.toSt s1.toSt:=by
 unfold Iq.asq at hg;split at hg
 ·rename_i hb;simp only [and_eq_true,beq_eq]at hb;obtain⟨k1,k2,k3,k4,k5⟩:=hb;split at hg
  ·rename_i a b ga gb;have hw:=Xe hg;obtain⟨va,vb,hv,wa,wb⟩:=afi.ael hw;unfold Iq.inst at hi;split at hi
   ·rename_i s2 us h1;split at hi
    ·rename_i s3 us2 h2;injection hi with hi;subst hi;rw [hv]at h1;have hpv:=Ex sh.ts x;rw [hv]at hpv;obtain⟨⟨H1,n1⟩,n2,n3,n4,n5,n6⟩:=Lg (sh.agP h0) hpv h1;have aqS: ∀ i,ai (lk s.tm i).toV (lk (sh.base st0).tm i).toV :=by
      intro i;show ai (lk s.tm i).toV (lk (Hx sh.ks st0.tm) i).toV;rw [P9];cases hm:Ke sh.ks i with
      | false=>simp only [DV.toV];intro w G u _;simp only [Ab]
      | true=>
        simp only;have ht:=am k1 i hm;have:lk s.tm i=lk st0.tm i:=by
         rcases SG st0.tm i with ⟨q1,q2⟩ | ⟨t,q1,q2⟩
         ·grind [SG]
         ·obtain⟨p1,p2⟩:=Zt h0.tm q2;obtain⟨p3,p4⟩:=Zt hN.ok.tm (ht.trans q2);rw [<-p2, <-p4,(hN.ext t p1).1]
        grind [ai.refl]
     obtain⟨e1,hsl⟩:=gF (us:=vb) ga wa h1 aqS;subst e1;have hpb: ∀ v∈us,wj v:=n2;obtain⟨⟨H2,m1⟩,m2,m3,m4,m5⟩:=Nb n1 hpb h2;have ayY: ∀ e∈s2.so,AbX s.so e:=by
      intro e he;rw [n3]at he;have he:e∈RD sh.ke st0.so:=he;have hid:=(Hy sh.ke st0.so).2 e he;have akj:=(Hy sh.ke st0.so).1.subset he;obtain⟨a',b',q1,q2,q3⟩:=ao k2 e.id hid;rw [jN h0.nd akj]at q2;injection q2 with q2;subst q2;obtain⟨t1,t2,_⟩:=h0.so e akj;obtain⟨u1,u2,_⟩:=CY q1;obtain⟨v1,v2,_⟩:=hN.ok.so a' u1;have:a'=e:=by rw [<-t2, <-v2,q3,(hN.ext e.tag t1).2]
      subst this;exact .inl (mem_map.2 ⟨a',u1,rfl⟩)
     have h2':Jj sh.es (us++[]) s2=some (s3,us2):=by grind
     obtain⟨_,hen⟩:=nF gb wb h2' ayY;have hgh:=gI hN.ext k3 h0.gh hN.ok.gh;exact {
      len:=by simp only [Af.toSt,AD,List.length_map,List.length_range];rw [m5,n6,k4];rfl
      tm:=fun i=>by show ai ((AD s.m s.tm).getD i .undef) ((AD s3.m s3.tm).getD i .undef);rw [Me,Me,m5,n6,m2];have:(sh.base st0).m =s.m:=k4.symm;grind [ai.refl]
      so:=fun e' he'=>by
       obtain⟨d,hd,rfl⟩:=mem_map.1 he';rcases hen d hd with q | ⟨cs,cs',q1,q2,q3,q4⟩
       ·exact .inl q
       ·exact .inr ⟨cs,cs',by rw [DE.toE_id];exact q1,by grind,q3,q4⟩
      nd:=by
       have:=m1.ok.nd;show ((s3.so.map DE.toE).map Aw.id).Nodup;rw [map_map];have e:(Aw.id ∘ DE.toE:DE T->Ah)=DE.id:=by grind [DE.toE_id]
       grind
      gh:=by simp only [Af.toSt];rw [m3,n4,hgh];rfl
      pre:=by simp only [Af.toSt];rw [m4,n5,AN.1 k5];rfl}
    ·cases hi
   ·cases hi
  ·cases hg
 ·cases hg
theorem Iq.ae1 {H H':As T} {sh:Iq} {st0 an s1:Af T} (h0:AH H st0) (hN:Nx H st0 H' an) {x:RT T sh.ts} (hg:sh.gen st0 an=some x) (hi:sh.inst st0 (CC sh.ts x)=some s1):Wk an.toSt s1.toSt:=by obtain⟨⟨H1,a⟩,b⟩:=Gm (l:=sh.frz an) hN;exact b.trans (Wk.wkn (Iq.apV h0 a hg hi))
end Go.PL
namespace Go.PL
open Go Go.RowKit
variable {T:Bo}
def GB:Nat->List (DV T)->Af T->Af T
 | _,[],st=>st
 | i,v::vs,st=>GB (i+1) vs (st.put (some i) v)
theorem RF {H:As T} {st0:Af T}: ∀ {vs:List (DV T)} {i:Nat} {st:Af T} {H1:As T},Nx H st0 H1 st->CX H st0.nx vs-> ∃ H',Nx H st0 H' (GB i vs st)
 | [],_,st,H1,h,_=>⟨H1,h⟩
 | v::vs,i,st,H1,h,hv=>by simp only [CX]at hv;obtain⟨H2,h2⟩:=Af.D_ h (some i) (DV.ac6 h.ext h.le hv.1);show ∃ H',Nx H st0 H' (GB (i+1) vs (st.put (some i) v));exact RF h2 hv.2
theorem Nd: ∀ (vs:List (DV T)) (i:Nat) (st:Af T),(GB i vs st).so =st.so/\(GB i vs st).gh =st.gh/\(GB i vs st).pre =st.pre/\(GB i vs st).m =st.m
 | [],_,_=>⟨rfl,rfl,rfl,rfl⟩
 | v::vs,i,st=>Nd vs (i+1) (st.put (some i) v)
theorem RG: ∀ (vs:List (DV T)) (i:Nat) (st:Af T) (j:Nat),lk (GB i vs st).tm j=if i<=j/\j<i+vs.length then vs.getD (j - i) .u else lk st.tm j
 | [],i,st,j=>by rw [if_neg (by simp)];rfl
 | v::vs,i,st,j=>by rw [GB,RG vs (i+1) _ j,yG];grind
def Af.enter (st:Af T) (k:Nat) (args:List (DV T)) (n:Nat):Af T:=GB 0 args ⟨n,[],st.so,(st.m,st.tm)::st.gh,k::st.pre,st.nx⟩
theorem yJ {H:As T} {st:Af T} (h:AH H st) (k:Nat) {args:List (DV T)} (n:Nat) (ha:CX H st.nx args): ∃ H',Nx H st H' (st.enter k args n):=by
 refine RF (H1:=H) (st:=⟨n,[],st.so,(st.m,st.tm)::st.gh,k::st.pre,st.nx⟩) ⟨C6.refl _ _,le_refl _,⟨fun _ _ _ hm=>by simp at hm,fun f hf=>?_,h.so,h.nd⟩⟩ ha;rcases mem_cons.1 hf with rfl | hf
 ·exact h.tm
 ·exact h.gh f hf
theorem aq {m:Nat} {tm:Tm T} {vs:List (DV T)} (hl:vs.length<=m) (h: ∀ j,lk tm j=if j<vs.length then vs.getD j .u else .u):AD m tm=Bg vs++List.replicate (m - (Bg vs).length) .undef :=by
 rw [Im];apply List.ext_getElem?;intro i;unfold AD;rw [List.getElem?_map];by_cases hi:i<vs.length
 ·rw [List.getElem?_range (by omega),List.getElem?_append_left (by rw [Im];exact hi)];simp_all [OV]
 ·rw [getElem?_append_right (by rw [Im];omega),Im,List.getElem?_replicate];by_cases hm:i<m
  all_goals simp_all [DV.toV]
theorem ru {st:Af T} {k:Nat} {args:List (DV T)} {n:Nat} (hl:args.length<=n):(st.enter k args n).toSt =st.toSt.enter k (Bg args) n:=by obtain⟨a,b,c,d⟩:=Nd args 0 (⟨n,[],st.so,(st.m,st.tm)::st.gh,k::st.pre,st.nx⟩:Af T);unfold Af.enter;simp only [Af.toSt,a,b,c,d,St.enter,flatMap_cons];rw [aq hl];intro j;rw [RG];simp only [Nat.zero_le,true_and,zero_add,Nat.sub_zero];rfl
def Af.back (st st0:Af T) (d:Option Nat) (v:DV T):Option (Af T):=match st.gh with
 | (m',tm')::g=>match Nat.beq m' st0.m with
   | true=>some (({st with m:=m',tm:=tm',gh:=g,pre:=st0.pre}:Af T).put d v)
   | false=>none
 | []=>none
theorem BB (m:Nat) (tm:Tm T):(AD m tm).length =m:=by simp [AD]
theorem wo {H H1:As T} {st st0 b:Af T} {d:Option Nat} {v:DV T} (hN:Nx H st0 H1 st) (hv:v.ok H1 st.nx) (h:st.back st0 d v=some b):(∃ H',Nx H st0 H' b)/\b.toSt=st.toSt.back st0.m st0.pre d v.toV/\b.pre=st0.pre:=by
 unfold Af.back at h;split at h
 ·rename_i m' tm' g hg;split at h
  ·rename_i hm;have hm:=eq_of_beq_eq_true hm;injection h with h;subst h;have hgh:=hN.ok.gh;rw [hg]at hgh;have n1:Nx H st0 H1 ({st with m:=m',tm:=tm',gh:=g,pre:=st0.pre}:Af T):=⟨hN.ext,hN.le,(by simp_all),(by grind),hN.ok.so,hN.ok.nd⟩;refine⟨Af.D_ n1 d hv,?_,by rw [AS]⟩;grind [Af.h_,Af.toSt,St.back,BB]
  ·cases h
 ·cases h
def Xf (P:Program) (st:Af T):ResultVar->M (DV T)
 | .tmp t=> .ret (st.get t)
 | .cell t Ty=>mZ P Ty [] st (st.get t)
def rx (P:Program) (st:Af T):List ResultVar->M (List (DV T))
 | []=> .ret []
 | x::xs=> .M_ (Xf P st x) fun v=> .M_ (rx P st xs) fun vs=> .ret (v::vs)
def yK (P:Program) (st:Af T):List ResultVar->M (DV T)
 | [x]=>Xf P st x
 | xs=> .M_ (rx P st xs) fun vs=> .ret (.tup vs)
section
variable {H:As T} {P:Program} {st:Af T}
theorem Kq (hw:AH H st) (x:ResultVar):Yl (Xf P st x) (fun v=>v.ok H st.nx/\(QA P st.toSt x).1/\(QA P st.toSt x).2=v.toV):=by
 cases x with
 | tmp t=>exact Yl.ret ⟨Af.ag5 hw t,trivial,by simp only [QA];exact st.aa_ t⟩
 | cell t Ty=>
   refine(ZE (key:=[]) hw (fun _=>Af.ag5 hw t)).mono fun v hv=>?_;obtain⟨a,b,c⟩:=hv rfl;simp only [QA,st.aa_];grind
theorem gJ (hw:AH H st): ∀ xs:List ResultVar,Yl (rx P st xs) (fun vs=>CX H st.nx vs/\(CI P st.toSt xs).1/\(CI P st.toSt xs).2=Bg vs)
 | []=>Yl.ret (by simp_all [CX,CI,Bg])
 | x::xs=>Yl.M_ (Kq hw x) fun v hv=>Yl.M_ (gJ hw xs) (by simp_all [Yl.ret,CX,CI,Bg])
theorem AbY (hw:AH H st) (xs:List ResultVar):Yl (yK P st xs) (fun v=>v.ok H st.nx/\(CA P st.toSt xs).1/\(CA P st.toSt xs).2=v.toV):=by
 unfold yK;split
 ·rename_i x;exact Kq hw x
 ·rename_i Tj;refine Yl.M_ (gJ hw _) fun vs hvs=>Yl.ret ?_;obtain⟨a,b,c⟩:=hvs;have:CA P st.toSt xs=((CI P st.toSt xs).1, .tup (CI P st.toSt xs).2):=by unfold CA;grind
  simp_all [DV.ok,DV.toV]
end
end Go.PL
namespace Go.PL
open Go Go.RowKit
variable {T:Bo}
mutual
def DC.f_ (p:Ah->Bool):DC T->Bool
 | .c x=>x.f_ p
 | .rp i _ _ _=>p i
 | .ap i _ _ _ _ _=>p i
 | .bs i _ _ _=>p i
 | .clo _ _ cs=>RH p cs
 | .k _ _=>false
 | .ip .. =>false
def RH (p:Ah->Bool):List (DC T)->Bool
 | []=>false
 | c::cs=>match c.f_ p with
   | true=>true
   | false=>RH p cs
end
mutual
theorem DC.ajz (p:Ah->Bool): ∀ c:DC T,c.f_ p=c.toC.f_ p
 | .c x=>by simp only [DC.f_,DC.toC]
 | .rp .. =>by simp only [DC.f_,DC.toC,C.f_]
 | .ap .. =>by simp only [DC.f_,DC.toC,C.f_]
 | .bs .. =>by simp only [DC.f_,DC.toC,C.f_]
 | .clo true _ cs=>by simp only [DC.f_,DC.toC,C.f_,Gn p cs]
 | .clo false _ cs=>by simp only [DC.f_,DC.toC,C.f_,Gn p cs]
 | .k kd x=>by cases kd<;>simp only [DC.f_,DC.toC,Bm,C.f_]
 | .ip .. =>by simp only [DC.f_,DC.toC,C.f_]
theorem Gn (p:Ah->Bool): ∀ cs:List (DC T),RH p cs=CJ p (Ar cs)
 | []=>by simp only [RH,Ar,CJ]
 | c::cs=>by simp only [RH,Ar,CJ,DC.ajz p c,Gn p cs];cases c.toC.f_ p<;>rfl
end
mutual
def DV.f_ (p:Ah->Bool):DV T->Bool
 | .c x=>x.f_ p
 | .agg cs=>RH p cs
 | .tup vs=>jO p vs
 | .g _ v=>v.f_ p
 | .u =>false
def jO (p:Ah->Bool):List (DV T)->Bool
 | []=>false
 | v::vs=>match v.f_ p with
   | true=>true
   | false=>jO p vs
end
mutual
theorem DV.agB (p:Ah->Bool): ∀ v:DV T,v.f_ p=false->v.toV.f_ p=false
 | .c x,h=>by grind [DV.f_,DV.toV,V.f_,DC.ajz]
 | .agg cs,h=>by grind [DV.f_,DV.toV,V.f_,Gn]
 | .tup vs,h=>by simp only [DV.f_]at h;simp only [DV.toV,V.f_];exact gK p vs h
 | .g k v,h=>by simp only [DV.f_]at h;simp only [DV.toV,V.f_,DV.agB p v h]
 | .u,_=>by simp only [DV.toV,V.f_]
theorem gK (p:Ah->Bool): ∀ vs:List (DV T),jO p vs=false->OS p (Bg vs)=false
 | [],_=>by simp only [Bg,OS]
 | v::vs,h=>by
   simp only [jO]at h;split at h
   ·cases h
   ·rename_i hv;simp only [Bg,OS,DV.agB p v hv,gK p vs h,Bool.or_self]
end
def Nf (p:Ah->Bool) (c:DC T):DC T:=match c.f_ p with
 | true=> .c .any
 | false=>c
def DX.f_ (p:Ah->Bool):DX T->Bool
 | .box cs=>RH p cs
 | .row _ _=>false
 | .deep .. =>false
def Qa (p:Ah->Bool):DX T->DX T
 | .box cs=> .box (cs.map (Nf p))
 | x=>x
theorem aw {p:Ah->Bool} {c:DC T} (h:c.ok):(Nf p c).ok :=by grind [Nf,DC.ok]
theorem Pb (p:Ah->Bool) (c:DC T):(Nf p c).toC =Cr p c.toC:=by grind [Nf,Cr,DC.ajz,DC.toC]
theorem Qb {p:Ah->Bool} {v:V} (h:v.f_ p=false):BD p v=v:=by simp_all [BD]
theorem Vl {p:Ah->Bool}: ∀ {l:List C},CJ p l=false->l.map (Cr p)=l
 | [],_=>rfl
 | c::l,h=>by simp only [CJ,Bool.or_eq_false_iff]at h;rw [map_cons,Vl h.2,Cr,if_neg (by simp [h.1])]
theorem nG {p:Ah->Bool} {e:DE T} (t:Nat):(⟨e.id,t,Qa p e.x⟩:DE T).toE =Aw.b_ p e.toE:=by
 unfold DE.toE;cases hxx:e.x with
 | box cs=>
   simp only [Qa,Aw.b_,CK,map_map,Aw.mk.injEq,and_true,true_and];grind [map_congr_left,Pb]
 | row E l=>rfl
 | deep E n l h=>rfl
theorem wq {p:Ah->Bool} {e:DE T} (h:e.x.f_ p=false):Aw.b_ p e.toE=e.toE:=by grind [DE.toE,DX.f_,Gn,Aw.b_,Vl]
theorem gL {p:Ah->Bool} {m n:Nat} {tm:Tm T}:JB ((AD m tm).map (BD p)) (AD m (QD (DV.f_ p) (fun _=> .u) n tm)):=by unfold AD;rw [map_map];refine JB.map fun i _=>?_;simp only [Function.comp,M7 (p:=DV.f_ p) (f:=fun _=>DV.u) (by simp [DV.f_])];grind [DV.toV,Qb,DV.agB]
theorem yL {p:Ah->Bool}: ∀ (l:List (Nat×Tm T)) (n:Nat),JB ((l.flatMap fun f=>AD f.1 f.2).map (BD p)) ((Rt (DV.f_ p) (fun _=> .u) n l).flatMap fun f=>AD f.1 f.2)
 | [],_=>trivial
 | (m,tm)::r,n=>by simp only [Rt,flatMap_cons,map_append];exact gL.append (yL r _)
def Af.E_ (st:Af T) (p:Ah->Bool):Af T:=let s:=st.aeo (DV.f_ p) (fun _=> .u) (DX.f_ p) (Qa p);{s with so:=s.so.filter fun e=> !(p e.id)}
theorem nH (p:Ah->Bool) (l:List (DE T)):(l.filter fun e=> !(p e.id)).map DE.toE=(l.map DE.toE).filter fun e=> !(p e.id):=by
 induction l with
 | nil=>rfl
 | cons e l ih=>
   simp only [List.filter_cons,map_cons,DE.toE_id];grind
theorem jP (p:Ah->Bool) (l:List Aw):(l.map (Aw.b_ p)).filter (fun e=> !(p e.id))=(l.filter (fun e=> !(p e.id))).map (Aw.b_ p):=by induction l<;>grind [Aw.t_]
theorem Af.aci {H:As T} {st:Af T} (h:AH H st) (p:Ah->Bool):(∃ H',Nx H st H' (st.E_ p))/\JB (st.toSt.tm.map (BD p)) (st.E_ p).toSt.tm /\JB (st.toSt.gh.map (BD p)) (st.E_ p).toSt.gh /\
 (st.E_ p).toSt.so =(st.toSt.so.filter fun e=> !(p e.id)).map (Aw.b_ p)/\(st.E_ p).pre =st.pre/\ ∀ e∈(st.E_ p).so,p e.id=false:=by
 obtain⟨H',hN⟩:=Af.aeI (p:=DV.f_ p) (f:=fun _=> .u) (q:=DX.f_ p) (g:=Qa p) h (fun _=>by simp only [DV.ok]) (fun {x} hx=>by
  cases x with
  | box cs=>
    simp only [Qa,DX.ok]at hx ⊢;refine C8.2 fun c hc=>?_;obtain⟨d,h1,rfl⟩:=mem_map.1 hc;grind [aw,C8]
  | row E l=>exact hx
  | deep E n l h=>exact hx)
 refine⟨⟨H',hN.ext,hN.le,Ep hN.ok _⟩,gL,yL _ _,?_,rfl,fun e he=>?_⟩
 ·show ((Ru (DX.f_ p) (Qa p) (st.nx+st.tm.length+N8 st.gh) st.so).filter fun e=> !(p e.id)).map DE.toE=_;rw [nH,O0 (F:=Aw.b_ p) _ (fun e _=>⟨fun _ t=>nG t,fun hm=>wq hm⟩)];exact jP p _
 ·have:=(mem_filter.1 he).2;grind
def Bp:List (Ah×DX T)->Af T->Af T
 | [],st=>st
 | (i,x)::r,st=>let s:=Bp r st;{s with so:=⟨i,s.nx,x⟩::s.so,nx:=s.nx+1}
def dm (p:Ah×DX T):Aw:=(⟨p.1,0,p.2⟩:DE T).toE
theorem tZ (i:Ah) (t:Nat) (x:DX T):(⟨i,t,x⟩:DE T).toE =dm (i,x):=by grind [dm,DE.toE]
theorem Ey: ∀ (l:List (Ah×DX T)) (st:Af T),(Bp l st).tm =st.tm/\(Bp l st).gh =st.gh/\(Bp l st).pre =st.pre/\(Bp l st).m =st.m/\(Bp l st).toSt.so =l.map dm++st.toSt.so/\(Bp l st).so.map DE.id=l.map (·.1)++st.so.map DE.id
 | [],st=>⟨rfl,rfl,rfl,rfl,rfl,rfl⟩
 | (i,x)::r,st=>by obtain⟨a,b,c,d,e,f⟩:=Ey r st;simp_all [Bp,Af.toSt,tZ]
theorem JE {H:As T} {st0 st:Af T}: ∀ {l:List (Ah×DX T)} {H1:As T},Nx H st0 H1 st->(∀ p∈l,p.2.ok)->(l.map (·.1)).Nodup ->(∀ p∈l, ∀ e∈st.so,e.id ≠ p.1)-> ∃ H',Nx H st0 H' (Bp l st)
 | [],H1,hn,_,_,_=>⟨H1,hn⟩
 | (i,x)::r,H1,hn,hx,hd,hf=>by
   simp only [map_cons,nodup_cons]at hd;obtain⟨H2,h2⟩:=JE hn (by grind) hd.2 (by grind);have he:=C6.Tl H2 (Bp r st).nx ⟨i,(Bp r st).nx,x⟩;refine⟨H2.Tl (Bp r st).nx ⟨i,(Bp r st).nx,x⟩,h2.trans ⟨he,le_succ _,?_,?_,?_,?_⟩⟩
   ·exact BY he (le_succ _) h2.ok.tm
   ·exact fun f hm=>BY he (le_succ _) (h2.ok.gh f hm)
   ·intro e hm;rcases mem_cons.1 hm with rfl | hm
    ·exact⟨Nat.lt_succ_self _,by simp [As.Tl],hx (i,x) (by simp)⟩
    ·exact Fu he (le_succ _) h2.ok.so e hm
   ·show (i::(Bp r st).so.map DE.id).Nodup;refine nodup_cons.2 ⟨fun hm=>?_,h2.ok.nd⟩;rw [(Ey r st).2.2.2.2.2]at hm;rcases mem_append.1 hm with hm | hm
    ·grind
    ·obtain⟨e,h3,h4⟩:=mem_map.1 hm;simp_all
def AbZ (m:Nat) (id:Ah):(k:Kd)->P6 T.den k->List (Ah×DX T)
 | .l_ E,l=>match m with
   | 1=>[(id, .row E l)]
   | 2=>[(1000003::id, .deep E (List.length l:Nat) l none)]
   | _=>[]
 | _,_=>[]
def ry:List Nat->Nat->Ah->(ks:List Kd)->DK T.den ks->List (Ah×DX T)
 | m::ms,i,B_,k::ks,x=>AbZ m (i::B_) k x.1++ry ms (i+1) B_ ks x.2
 | _,_,_,_,_=>[]
def t6:List (List Nat)->Nat->Ah->(ts:List VT)->RT T ts->List (Ah×DX T)
 | m::_,p,B_,[t],x=>ry m 0 (p::B_) (Fi T t) (O8 t x)
 | m::ms,p,B_,t::u::ts,x=>ry m 0 (p::B_) (Fi T t) (O8 t x.1)++t6 ms (p+1) B_ (u::ts) x.2
 | _,_,_,_,_=>[]
def wt (m:Nat) (id:Ah) (k:Kd) (x:P6 T.den k):DC T:=match QF m k with
 | 0=> .k k x
 | _=>match m with
   | 2=> .c (.e_ (1000003::id))
   | _=> .c (.e_ id)
def Vm:List Nat->Nat->Ah->(ks:List Kd)->DK T.den ks->List (DC T)
 | m::ms,i,B_,k::ks,x=>wt m (i::B_) k x.1::Vm ms (i+1) B_ ks x.2
 | [],i,B_,k::ks,x=> .k k x.1::Vm [] i B_ ks x.2
 | _,_,_,[],_=>[]
def dn (m:List Nat) (B_:Ah):(t:VT)->Eu T t->DV T
 | .k kd,x=> .c (wt (m.headD 0) (0::B_) kd x)
 | .s E,x=> .agg (Vm m 0 B_ (T.ks E) (T.un E x))
 | .f g,_=> .c (.c (.fn g))
def OG:List (List Nat)->Nat->Ah->(ts:List VT)->RT T ts->List (DV T)
 | m::_,p,B_,[t],x=>[dn m (p::B_) t x]
 | [],p,B_,[t],x=>[dn [] (p::B_) t x]
 | m::ms,p,B_,t::u::ts,x=>dn m (p::B_) t x.1::OG ms (p+1) B_ (u::ts) x.2
 | [],p,B_,t::u::ts,x=>dn [] (p::B_) t x.1::OG [] (p+1) B_ (u::ts) x.2
 | _,_,_,[],_=>[]
def dvR (ow:List (List Nat)) (B_:Ah) (ts:List VT) (x:RT T ts):DV T:=match OG ow 0 B_ ts x with
 | [v]=>v
 | vs=> .tup vs
theorem Mo (m:Nat) (id:Ah) (k:Kd) (x:P6 T.den k):(Ko m k x).length =(Z7 m id k).length /\(Z7 m id k).length =QF m k:=by
 cases k with
 | l_ E=>
   match m with
   | 0=>exact⟨rfl,rfl⟩
   | 1=>exact⟨rfl,rfl⟩
   | 2=>exact⟨rfl,rfl⟩
   | _+3=>exact⟨rfl,rfl⟩
 | _=>exact⟨rfl,rfl⟩
theorem Jk: ∀ {a b:List OE} {i j:List Ah},a.length=i.length->CZ (a++b) (i++j)=CZ a i++CZ b j
 | [],_,[],_,_=>rfl
 | [],_,_::_,_,h=>by simp at h
 | _::_,_,[],_,h=>by simp at h
 | o::a,b,x::i,j,h=>by simp only [cons_append,CZ,Jk (a:=a) (i:=i) (by simpa using h)]
theorem wv (m:Nat) (id:Ah) (k:Kd) (x:P6 T.den k):(AbZ m id k x).map dm=CZ (Ko m k x) (Z7 m id k)/\(AbZ m id k x).map (·.1)=Z7 m id k/\ ∀ p∈AbZ m id k x,p.2.ok:=by
 cases k with
 | l_ E=>
   match m with
   | 0=>exact⟨rfl,rfl,fun p hp=>by cases hp⟩
   | 1=>exact⟨rfl,rfl,fun p hp=>by rcases mem_singleton.1 hp with rfl;trivial⟩
   | 2=>exact⟨rfl,rfl,fun p hp=>by rcases mem_singleton.1 hp with rfl;trivial⟩
   | _+3=>exact⟨rfl,rfl,fun p hp=>by cases hp⟩
 | _=>exact⟨rfl,rfl,fun p hp=>by cases hp⟩
theorem Ng: ∀ (ms:List Nat) (i:Nat) (B_:Ah) (ks:List Kd) (x:DK T.den ks),(Ct ms ks x).length =(Mj ms i B_ ks).length /\(Mj ms i B_ ks).length =Fw ms ks
 | [],_,_,_,_=>⟨rfl,rfl⟩
 | _::_,_,_,[],_=>⟨rfl,rfl⟩
 | m::ms,i,B_,k::ks,x=>by obtain⟨a,b⟩:=Ng ms (i+1) B_ ks x.2;obtain⟨c,d⟩:=Mo m (i::B_) k x.1;simp_all [Ct,Mj,Fw]
theorem Vn: ∀ (ms:List Nat) (i:Nat) (B_:Ah) (ks:List Kd) (x:DK T.den ks),(ry ms i B_ ks x).map dm=CZ (Ct ms ks x) (Mj ms i B_ ks)/\(ry ms i B_ ks x).map (·.1)=Mj ms i B_ ks/\ ∀ p∈ry ms i B_ ks x,p.2.ok
 | [],_,_,_,_=>⟨rfl,rfl,fun p hp=>by cases hp⟩
 | _::_,_,_,[],_=>⟨rfl,rfl,fun p hp=>by cases hp⟩
 | m::ms,i,B_,k::ks,x=>by obtain⟨a,b,c⟩:=Vn ms (i+1) B_ ks x.2;grind [wv,ry,Ct,Mj,Jk,Mo]
theorem nI: ∀ (ow:List (List Nat)) (p:Nat) (B_:Ah) (ts:List VT) (x:RT T ts),(t6 ow p B_ ts x).map dm=CZ (Dm ow ts x) (Z8 T ow p B_ ts)/\(t6 ow p B_ ts x).map (·.1)=Z8 T ow p B_ ts/\ ∀ q∈t6 ow p B_ ts x,q.2.ok
 | [],_,_,[],_=>⟨rfl,rfl,fun q hq=>by cases hq⟩
 | [],_,_,[_],_=>⟨rfl,rfl,fun q hq=>by cases hq⟩
 | [],_,_,_::_::_,_=>⟨rfl,rfl,fun q hq=>by cases hq⟩
 | _::_,_,_,[],_=>⟨rfl,rfl,fun q hq=>by cases hq⟩
 | m::ms,p,B_,[t],x=>by
   obtain⟨a,b,c⟩:=Vn m 0 (p::B_) (Fi T t) (O8 t x);have e:Z8 T (m::ms) p B_ [t]=Mj m 0 (p::B_) (Fi T t):=by cases ms<;>simp [Z8]
   rw [e];exact⟨a,b,c⟩
 | m::ms,p,B_,t::u::ts,x=>by
   obtain⟨a,b,c⟩:=Vn m 0 (p::B_) (Fi T t) (O8 t x.1);obtain⟨a',b',c'⟩:=nI ms (p+1) B_ (u::ts) x.2;refine⟨?_,?_,fun q hq=>?_⟩
   ·grind [t6,Dm,Z8,Jk,Ng]
   all_goals grind [t6,Z8]
theorem yM {pre:List Ah} {n:Ah} {post:List Ah}:(pre++([n]++post)).getD pre.length []=n:=by grind
theorem Vo (m:Nat) (id:Ah) (k:Kd) (x:P6 T.den k) (pre post:List Ah):(wt m id k x).toC =(QO m pre.length k x).toC (pre++(Z7 m id k++post)):=by unfold wt QO Z7;grind [PC.toC,DC.toC]
theorem Vp: ∀ (ms:List Nat) (i:Nat) (B_:Ah) (ks:List Kd) (x:DK T.den ks) (pre post:List Ah),Ar (Vm ms i B_ ks x)=(Fv ms pre.length ks x).map (PC.toC (pre++(Mj ms i B_ ks++post)))
 | [],_,_,[],_,_,_=>by simp [Vm,Fv,Ar]
 | _::_,_,_,[],_,_,_=>by simp [Vm,Fv,Ar]
 | [],i,B_,k::ks,x,pre,post=>by have:=Vp [] i B_ ks x.2 pre post;simp only [Vm,Fv,Ar,map_cons,PC.toC,DC.toC,List.cons.injEq,true_and];exact this
 | m::ms,i,B_,k::ks,x,pre,post=>by have h1:=Vo m (i::B_) k x.1 pre (Mj ms (i+1) B_ ks++post);have h2:=Vp ms (i+1) B_ ks x.2 (pre++Z7 m (i::B_) k) post;rw [length_append,(Mo m (i::B_) k x.1).2]at h2;grind [Vm,Fv,Ar,Mj]
theorem Qc (m:List Nat) (B_:Ah) (t:VT) (x:Eu T t) (pre post:List Ah):(dn m B_ t x).toV =(I9 m pre.length t x).toV (pre++(Mj m 0 B_ (Fi T t)++post)):=by
 cases t with
 | k kd=>
   simp only [dn,I9,PP.toV,DV.toV,Fi];cases m with
   | nil=>
     have:=Vo 0 (0::B_) kd x pre post;have e:Z7 0 (0::B_) kd=[]:=by unfold Z7 QF;grind
     grind [Mj]
   | cons a m=>
     grind [Vo,Mj]
 | s E=>grind [dn,I9,PP.toV,DV.toV,Vp,Fi]
 | f g=>simp only [dn,I9,PP.toV,DV.toV,DC.toC,PC.toC]
theorem Vq: ∀ (ow:List (List Nat)) (p:Nat) (B_:Ah) (ts:List VT) (x:RT T ts) (pre post:List Ah),Bg (OG ow p B_ ts x)=(B4 ow pre.length ts x).map (PP.toV (pre++(Z8 T ow p B_ ts++post)))
 | [],_,_,[],_,_,_=>by simp [OG,B4,Bg]
 | _::_,_,_,[],_,_,_=>by simp [OG,B4,Bg]
 | [],p,B_,[t],x,pre,post=>by have:=Qc [] (p::B_) t x pre post;grind [Mj,OG,B4,Bg,Z8]
 | m::ms,p,B_,[t],x,pre,post=>by have:=Qc m (p::B_) t x pre post;grind [Z8,OG,B4,Bg]
 | [],p,B_,t::u::ts,x,pre,post=>by
   have h1:=Qc [] (p::B_) t x.1 pre post;have e:Mj [] 0 (p::B_) (Fi T t)=[]:=by cases Fi T t<;>rfl
   rw [e]at h1;have h2:=Vq [] (p+1) B_ (u::ts) x.2 pre post;simp only [OG,B4,Bg,map_cons,h1,h2,Z8]
 | m::ms,p,B_,t::u::ts,x,pre,post=>by have h1:=Qc m (p::B_) t x.1 pre (Z8 T ms (p+1) B_ (u::ts)++post);have h2:=Vq ms (p+1) B_ (u::ts) x.2 (pre++Mj m 0 (p::B_) (Fi T t)) post;rw [length_append,(Ng m 0 (p::B_) (Fi T t) (O8 t x.1)).2]at h2;grind [OG,B4,Bg,Z8]
theorem yN (ow:List (List Nat)) (B_:Ah) (ts:List VT) (x:RT T ts):(dvR ow B_ ts x).toV =OF (Z8 T ow 0 B_ ts) (B4 ow 0 ts x):=by
 have h:=Vq ow 0 B_ ts x [] [];simp only [List.length_nil,nil_append,append_nil]at h;unfold dvR OF;split
 ·rename_i v hv;rw [hv]at h;simp only [Bg]at h;split
  ·grind
  ·rename_i Tj
   match hp:B4 ow 0 ts x,h,Tj with
   | [p],_,Tj=>grind
   | [],h,_=>simp at h
   | _::_::_,h,_=>simp at h
 ·rename_i Tj;split
  ·rename_i p hp;rw [hp]at h
   match hv:OG ow 0 B_ ts x,h,Tj with
   | [v],_,Tj=>grind
   | [],h,_=>simp [Bg]at h
   | _::_::_,h,_=>simp [Bg]at h
  ·simp only [DV.toV,h]
theorem t7 (m:Nat) (id:Ah) (k:Kd) (x:P6 T.den k):(wt m id k x).ok :=by unfold wt;grind [DC.ok]
theorem jQ: ∀ (ms:List Nat) (i:Nat) (B_:Ah) (ks:List Kd) (x:DK T.den ks),Ce (Vm ms i B_ ks x)
 | [],_,_,[],_=>by simp [Vm,Ce]
 | _::_,_,_,[],_=>by simp [Vm,Ce]
 | [],i,B_,k::ks,x=>by simp only [Vm,Ce,DC.ok,true_and];exact jQ [] i B_ ks x.2
 | m::ms,i,B_,k::ks,x=>by simp only [Vm,Ce];exact⟨t7 _ _ _ _,jQ ms (i+1) B_ ks x.2⟩
theorem YA {H:As T} {n:Nat} (m:List Nat) (B_:Ah) (t:VT) (x:Eu T t):(dn m B_ t x).ok H n:=by cases t<;>grind [dn,DV.ok,t7,jQ,DC.ok]
theorem jR {H:As T} {n:Nat}: ∀ (ow:List (List Nat)) (p:Nat) (B_:Ah) (ts:List VT) (x:RT T ts),CX H n (OG ow p B_ ts x)
 | [],_,_,[],_=>by simp [OG,CX]
 | _::_,_,_,[],_=>by simp [OG,CX]
 | [],p,B_,[t],x=>by simp only [OG,CX,and_true];exact YA _ _ _ _
 | m::ms,p,B_,[t],x=>by simp only [OG,CX,and_true];exact YA _ _ _ _
 | [],p,B_,t::u::ts,x=>by simp only [OG,CX];exact⟨YA _ _ _ _,jR [] (p+1) B_ (u::ts) x.2⟩
 | m::ms,p,B_,t::u::ts,x=>by simp only [OG,CX];exact⟨YA _ _ _ _,jR ms (p+1) B_ (u::ts) x.2⟩
theorem Afc {H:As T} {n:Nat} (ow:List (List Nat)) (B_:Ah) (ts:List VT) (x:RT T ts):(dvR ow B_ ts x).ok H n:=by
 have:=jR (H:=H) (n:=n) ow 0 B_ ts x;unfold dvR;split
 all_goals simp_all [CX,DV.ok]
def Ahu (m:Nat) (id:Ah) (k:Kd):Bool:=match QF m k with
 | 0=>true
 | _=>match m with
   | 2=>true
   | _=> !Fh id&& !C4 id
def Ab0:List Nat->Nat->Ah->List Kd->Bool
 | m::ms,i,B_,k::ks=>Ahu m (i::B_) k&&Ab0 ms (i+1) B_ ks
 | _,_,_,_=>true
def okR (T:Bo):List (List Nat)->Nat->Ah->List VT->Bool
 | m::ms,p,B_,t::ts=>Ab0 m 0 (p::B_) (Fi T t)&&okR T ms (p+1) B_ ts
 | _,_,_,_=>true
theorem Lh: ∀ {a b:List OE} {i j:List Ah},KX a i=true->KX b j=true->KX (a++b) (i++j)=true
 | [],_,[],_,_,h=>h
 | [],_,_::_,_,h,_=>by simp [KX]at h
 | _::_,_,[],_,h,_=>by simp [KX]at h
 | o::a,b,x::i,j,h,k=>by simp_all [KX,Lh]
theorem ww {m:Nat} {id:Ah} {k:Kd} (x:P6 T.den k) (h:Ahu m id k=true):KX (Ko m k x) (Z7 m id k)=true:=by
 cases k with
 | l_ E=>
   match m with
   | 0=>rfl
   | 1=>
     have h:(!Fh id&& !C4 id)=true:=h;simp only [and_eq_true,Bool.not_eq_true']at h;show ((Fh id==false&& !C4 id)&&true)=true;grind
   | 2=>rfl
   | _+3=>rfl
 | _=>rfl
theorem Vr: ∀ {ms:List Nat} {i:Nat} {B_:Ah} {ks:List Kd} (x:DK T.den ks),Ab0 ms i B_ ks=true->KX (Ct ms ks x) (Mj ms i B_ ks)=true
 | [],_,_,_,_,_=>rfl
 | _::_,_,_,[],_,_=>rfl
 | m::ms,i,B_,k::ks,x,h=>by simp only [Ab0,and_eq_true]at h;exact Lh (ww x.1 h.1) (Vr x.2 h.2)
theorem nJ: ∀ {ow:List (List Nat)} {p:Nat} {B_:Ah} {ts:List VT} (x:RT T ts),okR T ow p B_ ts=true->KX (Dm ow ts x) (Z8 T ow p B_ ts)=true
 | [],_,_,[],_,_=>rfl
 | [],_,_,[_],_,_=>rfl
 | [],_,_,_::_::_,_,_=>rfl
 | _::_,_,_,[],_,_=>rfl
 | m::ms,p,B_,[t],x,h=>by
   simp only [okR,and_eq_true]at h;have e:Z8 T (m::ms) p B_ [t]=Mj m 0 (p::B_) (Fi T t):=by cases ms<;>simp [Z8]
   rw [e];exact Vr (O8 t x) h.1
 | m::ms,p,B_,t::u::ts,x,h=>by rw [okR,and_eq_true]at h;rw [Z8];exact Lh (Vr (O8 t x.1) h.1) (nJ x.2 h.2)
def LM (ns:List Ah) (i:Ah):Bool:=match ns with
 | []=>false
 | n::r=>match Bf i n with
   | true=>true
   | false=>match aeK n i with
     | true=>true
     | false=>LM r i
where aeK (n i:Ah):Bool:=match i with
 | m::_::j=>Nat.beq m 1000007&&Bf j n
 | _=>false
theorem t8: ∀ (ns:List Ah) (i:Ah),LM ns i=L6 ns i
 | [],_=>rfl
 | n::r,i=>by
   have e:LM.aeK n i=DF n i:=by unfold LM.aeK DF;split<;>simp [CT]
   simp only [LM,L6,List.any_cons,e,CT];have:=t8 r i;unfold L6 at this;rw [this];cases i==n<;>cases DF n i<;>rfl
def rz {P:Program} {I:World->Prop} (Γ:List (CE T P I)) (st:Af T) (f:FuncId) (xs:List Operand) (d:Nat):M (Af T):=
 match I7 st [] xs with
 | some vs=>match M9 st vs,SS vs with
   | some ws,[]=>match RB f ws Γ with
     | some ⟨e,x⟩=>match e.ow with
       | []=> .no
       | m::ms=>Tf (M5 (Z8 T (m::ms) 0 (d::st.pre) e.rs)&&okR T (m::ms) 0 (d::st.pre) e.rs) (.opt (e.run x) fun r=>
          .ret ((Bp (t6 (m::ms) 0 (d::st.pre) e.rs r) (st.E_ (LM (Z8 T (m::ms) 0 (d::st.pre) e.rs)))).put (some d) (dvR (m::ms) (d::st.pre) e.rs r)))
     | none=> .no
   | _,_=> .no
 | none=> .no
theorem wx {H:As T} {P:Program} {I:World->Prop} {Γ:List (CE T P I)} {st:Af T} (hw:AH H st) {f:FuncId} {xs:List Operand} {o:Oper} (hk:Ck o.op= .call f xs) {d:Nat} (hd:o.dst=some d):
 Yl (rz Γ st f xs d) (fun an=>(∃ H',Nx H st H' an)/\an.pre=st.pre/\ ∀ K:St->Prop,K an.toSt->DJ P I o st.toSt K):=by
 unfold rz;split
 ·rename_i vs hvs;split
  ·rename_i ws hws auK;split
   ·rename_i e x hx;obtain⟨he,hx⟩:=Gk hx;split
    ·exact Yl.no
    ·rename_i m ms how;refine Yl.Tf fun hg=>Yl.opt fun r hr=>Yl.ret ?_;simp only [and_eq_true]at hg;obtain⟨g1,g2⟩:=hg;have hnd:=Ii g1;obtain⟨a1,a2,a3⟩:=Dg (key:=[]) hw (fun _ hl=>by cases hl) rfl hvs;change (st.toSt.args true xs).1 at a2;change (st.toSt.args true xs).2=Bg vs at a3;have hc:=e.okx (by grind) x r hr;rw [he,how]at hc;have hs:(Bg vs).map (BF st.toSt)=Gf e.ps x:=by rw [GA hws,hx]
     have hp:LM (Z8 T (m::ms) 0 (d::st.pre) e.rs)=L6 (Z8 T (m::ms) 0 (d::st.pre) e.rs):=by grind [t8]
     rw [hp];generalize hns:Z8 T (m::ms) 0 (d::st.pre) e.rs=ns at *;obtain⟨⟨H1,n1⟩,k1,k2,k3,k4,k5⟩:=Af.aci hw (L6 ns);obtain⟨x1,x2,x3⟩:=nI (m::ms) 0 (d::st.pre) e.rs r;rw [hns]at x1 x2;obtain⟨H2,n2⟩:=JE (l:=t6 (m::ms) 0 (d::st.pre) e.rs r) n1 x3 (by grind) (fun p hp' e' he' q=>by
      have h1:=k5 e' he';have h2:p.1∈ns:=by grind
      grind [L6])
     obtain⟨s1,s2,s3,s4,s5,_⟩:=Ey (t6 (m::ms) 0 (d::st.pre) e.rs r) (st.E_ (L6 ns));obtain⟨H3,n3⟩:=Af.D_ n2 (some d) (Afc (m::ms) (d::st.pre) e.rs r);refine⟨⟨H3,n3⟩,by rw [AS,s3,k4],fun K hK=>?_⟩;have aid:Cp ((st.toSt.b_ (L6 ns) (CZ (Dm (m::ms) e.rs r) ns++(st.toSt.so.filter fun e=> !(L6 ns e.id)).map (Aw.b_ (L6 ns)))).put (some d) (OF ns (B4 (m::ms) 0 e.rs r)))
      ((Bp (t6 (m::ms) 0 (d::st.pre) e.rs r) (st.E_ (L6 ns))).put (some d) (dvR (m::ms) (d::st.pre) e.rs r)).toSt :=by
      rw [Af.h_,yN,hns];refine Cp.put ?_ _ _;have t1:(Bp (t6 (m::ms) 0 (d::st.pre) e.rs r) (st.E_ (L6 ns))).toSt.tm =(st.E_ (L6 ns)).toSt.tm :=by grind [Af.toSt]
      have t2:(Bp (t6 (m::ms) 0 (d::st.pre) e.rs r) (st.E_ (L6 ns))).toSt.gh =(st.E_ (L6 ns)).toSt.gh :=by simp only [Af.toSt,s2]
      have t3:(Bp (t6 (m::ms) 0 (d::st.pre) e.rs r) (st.E_ (L6 ns))).toSt.so =CZ (Dm (m::ms) e.rs r) ns++(st.toSt.so.filter fun e=> !(L6 ns e.id)).map (Aw.b_ (L6 ns)):=by grind
      refine⟨by rw [t1];exact k1.get.1,fun i=>by rw [t1];exact k1.get.2 i,fun y hy=>by rw [t3]at hy;exact hy,fun hn=>by rw [t3];exact hn,by rw [t2];exact k2.get,?_⟩;show (Bp (t6 (m::ms) 0 (d::st.pre) e.rs r) (st.E_ (L6 ns))).pre =st.pre;rw [s3,k4]
     intro F a w G Q hI hR;refine Oper.wp_mono (fun _ _ ⟨s,G',hs',hR'⟩=>⟨_,G',hK,(hs'▸hR').less aid⟩) (DJ.avO (K:=(· =(st.toSt.b_ (L6 ns) (CZ (Dm (m::ms) e.rs r) ns++(st.toSt.so.filter fun e=> !(L6 ns e.id)).map (Aw.b_ (L6 ns)))).put (some d) (OF ns (B4 (m::ms) 0 e.rs r)))) d hk hd a2 ?_ ?_ ?_ ?_ hnd rfl F a w G Q hI hR)
     ·grind [Kp]
     ·rw [a3,FT,auK]
     ·grind
     ·rw [<-hns];exact nJ r g2
   ·exact Yl.no
  ·exact Yl.no
 ·exact Yl.no
end Go.PL
set_option linter.all false
namespace Go.PL
open Go Go.RowKit
variable {T:Bo}
def ax (E E':Nat) (l:List (T.den E')):Option (List (T.den E)):=match Nat.decEq E' E with
 | .isTrue h=>some (h▸l)
 | .isFalse _=>none
theorem Kr {E E':Nat} {l:List (T.den E')} {m:List (T.den E)} (h:ax E E' l=some m): ∃ e:E'=E,m=e▸l:=by
 unfold ax at h;split at h
 all_goals grind
theorem ay {den:Nat->Type} {enc: ∀ E,den E->List C}: ∀ (ks:List Kd) (y:DK den ks),(BG enc ks y).map QB=BG enc ks y
 | [],_=>rfl
 | k::ks,y=>by simp only [BG,map_cons,ay ks y.2];cases k<;>rfl
theorem Xg: ∀ (ks:List Kd) (y:DK T.den ks),(BR T ks y).map QB=BG T.enc ks y
 | [],_=>rfl
 | k::ks,y=>by simp only [BR,BG,map_cons,Xg ks y.2];cases k<;>rfl
theorem RI (E:Nat) (n:Int): ∀ (k:Int) (l:List (T.den E)),(AC T E n k l).map QB=l.flatMap (T.enc E)
 | _,[]=>rfl
 | k,x::l=>by
   rw [AC,map_append,RI E n (k+1) l,flatMap_cons];congr 1;split
   ·rw [Bo.aa4,Xg,T.aa2]
   ·rw [<-T.aa2,ay]
def pDT (r id i:Ah):Bool:=match Bf i r with
 | true=>true
 | false=>LM.aeK id i
theorem Li (n i:Ah):LM.aeK n i=DF n i:=by unfold LM.aeK DF;split<;>simp [CT]
theorem Afd (r id:Ah):pDT r id=pD r id:=by grind [pDT,pD,CT,Li]
theorem acd {id:Ah} {t:Nat} {x:DX T}: ∀ {l:List (DE T)} {e:DE T},(l.map DE.id).Nodup ->e∈Vb id t x l->(e∈l/\e.id ≠ id)\/e=⟨id,t,x⟩
 | [],e,_,h=>by cases h
 | a::r,e,hn,h=>by
   rw [map_cons]at hn;obtain⟨n1,n2⟩:=nodup_cons.1 hn;unfold Vb at h;split at h
   ·rename_i hb;have hb:=AN.1 hb;grind
   ·rename_i hb;rcases mem_cons.1 h with rfl | h
    ·exact .inl ⟨by simp,fun q=>by rw [AN.2 q]at hb;cases hb⟩
    ·rcases acd n2 h with ⟨h1,h2⟩ | h
     ·exact .inl ⟨by simp [h1],h2⟩
     ·exact .inr h
theorem gM {H:As T} {st:Af T} (hw:AH H st) {p:Ah->Bool} {e:Aw} (h:e∈(st.E_ p).toSt.so): ∃ d∈st.toSt.so,p d.id=false/\e=d.b_ p:=by rw [(Af.aci hw p).2.2.2.1]at h;grind
theorem Lj {A B:St} (h1:JB A.tm B.tm) (h2:JB A.gh B.gh) (h3: ∀ e∈B.so,e∈A.so) (h4:(B.so.map (·.id)).Nodup) (h5:B.pre=A.pre):Cp A B:=⟨h1.get.1,h1.get.2,h3,fun _=>h4,h2.get,h5⟩
theorem FH {H:As T} {st:Af T} (hw:AH H st):(st.toSt.so.map (·.id)).Nodup :=by
 have e:st.toSt.so.map (·.id)=st.so.map DE.id:=by grind [Af.toSt,map_congr_left,DE.toE_id]
 rw [e];exact hw.nd
theorem Jl {α:Type} [Inhabited α] {l:List α} {i:Int} {x:α} (h:idx l i=some x):0<=i/\i<(l.length:Int)/\l[i.toNat]? =some x:=by have hi:=N7 h;have:=fM h;grind
def GC:(ks:List Kd)->DK T.den ks->Nat->Option ((F:Nat)×List (T.den F))
 | .l_ F::_,y,0=>some ⟨F,y.1⟩
 | _::ks,y,p+1=>GC ks y.2 p
 | _,_,_=>none
theorem Pc: ∀ {ks:List Kd} {y:DK T.den ks} {p:Nat} {F:Nat} {l:List (T.den F)},GC ks y p=some ⟨F,l⟩->(BR T ks y)[p]? =some (.isl F (T.sz F) l.length (l.flatMap (T.enc F)))/\p<ks.length
 | [],_,_,_,_,h=>by simp [GC]at h
 | .l_ F'::ks,y,0,F,l,h=>by simp only [GC,injEq]at h;injection h with h1 h2;subst h1;have h2:=eq_of_heq h2;subst h2;exact⟨rfl,by simp⟩
 | .int k::ks,y,0,F,l,h=>by simp [GC]at h
 | .bool ::ks,y,0,F,l,h=>by simp [GC]at h
 | .str ::ks,y,0,F,l,h=>by simp [GC]at h
 | k::ks,y,p+1,F,l,h=>by
   have h:GC ks y.2 p=some ⟨F,l⟩:=by cases k<;>simpa only [GC] using h
   obtain⟨a,b⟩:=Pc h;exact⟨by simpa only [BR,List.getElem?_cons_succ] using a,by simp;omega⟩
def GD (F:Nat) (l:List (T.den F)):(ks:List Kd)->DK T.den ks->Nat->Option (DK T.den ks)
 | .l_ F'::_,y,0=>match Nat.decEq F F' with
   | .isTrue h=>some (h▸l,y.2)
   | .isFalse _=>none
 | k::ks,y,p+1=>match GD F l ks y.2 p with
   | some z=>some (y.1,z)
   | none=>none
 | _,_,_=>none
theorem Nh {F:Nat} {l:List (T.den F)}: ∀ {ks:List Kd} {y z:DK T.den ks} {p:Nat},GD F l ks y p=some z->BR T ks z=(BR T ks y).set p (.isl F (T.sz F) l.length (l.flatMap (T.enc F)))/\p<ks.length
 | [],_,_,_,h=>by simp [GD]at h
 | .l_ F'::ks,y,z,0,h=>by
   simp only [GD]at h;split at h
   ·rename_i e _;subst e;injection h with h;subst h;exact⟨rfl,by simp⟩
   ·cases h
 | .int k::ks,y,z,0,h=>by simp [GD]at h
 | .bool ::ks,y,z,0,h=>by simp [GD]at h
 | .str ::ks,y,z,0,h=>by simp [GD]at h
 | k::ks,y,z,p+1,h=>by
   have h:(match GD F l ks y.2 p with | some z=>some ((y.1,z):P6 T.den k×DK T.den ks) | none=>none)=some z:=by cases k<;>simpa only [GD] using h
   split at h
   ·rename_i z' hz;injection h with h;subst h;obtain⟨a,b⟩:=Nh hz;exact⟨by simp only [BR,set_cons_succ];rw [a],by simp;omega⟩
   ·cases h
theorem RJ {E:Nat} {n:Int} {c:C} {p:Nat} {x':T.den E}: ∀ {l:List (T.den E)} {k:Int} {i:Nat} {x:T.den E},l[i]? =some x->k+i<n->T.aa4 E x'=(T.aa4 E x).set p c->p<T.sz E->(AC T E n k l).set (i*T.sz E+p) c=AC T E n k (l.set i x')
 | [],_,_,_,h,_,_,_=>by simp at h
 | y::l,k,0,x,h,hn,hx,hp=>by simp only [getElem?_cons_zero,injEq]at h;simp_all [AC,Eo]
 | y::l,k,i+1,x,h,hn,hx,hp=>by
   have hl:(if k<n then T.aa4 E y else T.enc E y).length =T.sz E:=by grind [Eo]
   rw [set_cons_succ,AC,AC,List.set_append_right _ _ (by rw [hl,add_mul,one_mul];omega),hl,show (i+1)*T.sz E+p - T.sz E=i*T.sz E+p by rw [add_mul,one_mul];omega];rw [RJ (by simpa using h) (by push_cast at hn;omega) hx hp]
theorem wy (E:Nat) (x:T.den E):Ao (T.aa4 E x)=true:=by
 have: ∀ (ks:List Kd) (y:DK T.den ks),Ao (BR T ks y)=true:=by
  intro ks;induction ks with
  | nil=>intro _;rfl
  | cons k ks ih=>
    intro y;simp only [BR,Ao,and_eq_true];exact⟨by cases k<;>rfl,ih y.2⟩
 exact this _ _
def Yld (P:Program) (I:World->Prop) (o:Oper) (A B:St):Prop:= ∀ (F:Fr) (a:Act) (w:World) (G:AG),F.I=I->R F A a w G-> ∃ v G',(∀ w',C1 w w'->(execOp a.eval o).run P w'= .ok (.value v) w')/\R F B (a.put o.dst v) w G'
theorem Yld.esc {P:Program} {I:World->Prop} {o:Oper} {A B:St} {K:St->Prop} (h:Yld P I o A B) (hK:K B):DJ P I o A K:=fun F a w G Q hI hR=>by obtain⟨v,G',h1,h2⟩:=h F a w G hI hR;exact AJ (h1 w (C1.refl w)) ⟨_,G',hK,h2⟩
theorem wz {w w':World} {b k:Nat} {v:Value} (h:C1 w w') (hc:w.cell? ⟨b,k,none⟩=some v):w'.cell? ⟨b,k,none⟩=some v:=by rw [X_ (h.block b (block_lt_of_cell hc))];exact hc
def dlx (P:Program) (o:Oper) (st:Af T):M (Af T):=match o.op with
 | .load t x=>match o.dst,st.arg [] x,K0 P t with
   | some d,some (.c (.rp id N i off)),some (false,1)=>match Kh st id with
     | some ⟨E,(nn,l,none)⟩=>Tf (Fh id&&(Nat.beq N (T.sz E)&&(!(C4 (d::st.pre))&& !(Fh (d::st.pre))))) (.opt (idx l i) fun x=> .opt (k_ (i<nn)) fun _=>match GC (T.ks E) (T.un E x) off with
       | some ⟨F,y⟩=> .ret ((Bp [(d::st.pre, .row F y)] ((st.E_ (pDT (d::st.pre) id)).abn id (.deep E nn l (some (i,off))))).put (some d) (.c (.c (.e_ (d::st.pre)))))
       | none=> .no)
     | _=> .no
   | _,_,_=> .no
 | _=> .no
theorem yO {H:As T} {P:Program} {I:World->Prop} {st:Af T} (hw:AH H st) {o:Oper}:Yl (dlx P o st) (fun an=>(∃ H',Nx H st H' an)/\an.pre=st.pre/\Yld P I o st.toSt an.toSt):=by
 unfold dlx;split
 ·rename_i t x hop;split
  ·rename_i d id N i off hd hx ht;split
   ·rename_i E nn l hdr;refine Yl.Tf fun hg=>Yl.opt fun xx hxx=>Yl.opt fun u hu=>?_;simp only [and_eq_true,beq_eq,Bool.not_eq_true']at hg;obtain⟨g1,g2,g3,g4⟩:=hg;subst g2;split
    ·rename_i F y hy;refine Yl.ret ?_;have hin:=Cm hu;obtain⟨i0,i1,hxi⟩:=Jl hxx;obtain⟨a1,a2,a3⟩:=Ht hw hx;obtain⟨hmk,hlr,e,he1,he2,he3⟩:=B3 hdr;obtain⟨hc,acy⟩:=Pc hy;have hE:e.toE=⟨id,some (E,T.sz E,l.length),AC T E nn 0 l,true⟩:=by unfold DE.toE;rw [he3,he2];rfl
     obtain⟨⟨H1,n1⟩,k1,k2,k3,k4,k5⟩:=Af.aci hw (pDT (d::st.pre) id);have hp:pDT (d::st.pre) id=pD (d::st.pre) id:=Afd _ _;rw [hp]at n1 k1 k2 k3 k4 k5 ⊢;have akf:d::st.pre ≠ id:=fun q=>by rw [q,g1]at g4;cases g4
     obtain⟨H2,n2⟩:=Af.abk n1.ok id (x:= .deep E nn l (some (i,off))) trivial;obtain⟨H3,n3⟩:=JE (l:=[(d::st.pre,DX.row F y)]) (n1.trans n2) (fun p hp'=>by rcases mem_singleton.1 hp' with rfl;trivial) (by simp) (fun p hp' e' he' q=>by
      rcases mem_singleton.1 hp' with rfl;have ajF:e'.id∈((st.E_ (pD (d::st.pre) id)).so.map DE.id):=by rw [<-ZT id (st.E_ (pD (d::st.pre) id)).nx (.deep E nn l (some (i,off)))];exact mem_map.2 ⟨e',he',rfl⟩
      grind [pD])
     obtain⟨s1,s2,s3,s4,s5,_⟩:=Ey [(d::st.pre,DX.row F y)] ((st.E_ (pD (d::st.pre) id)).abn id (.deep E nn l (some (i,off))));obtain⟨H4,n4⟩:=Af.D_ n3 (some d) (v:= .c (.c (.e_ (d::st.pre)))) (by simp only [DV.ok,DC.ok]);refine⟨⟨H4,n4⟩,by rw [AS,s3];exact k4,fun Fr a w G hI hR=>?_⟩;have hL:st.toSt.IN id=some e.toE:=hR.I_ (mem_map.2 ⟨e,he1,rfl⟩) (by rw [hE]) g1;have hk:e.toE.cs[i.toNat*T.sz E+off]? =some (.isl F (T.sz F) y.length (y.flatMap (T.enc F))):=by rw [hE];show (AC T E nn 0 l)[_]? =_;rw [Kj hxi acy,if_pos (by omega)];exact hc
     have V_:=hR.arg rfl a2;rw [a3]at V_;simp only [DV.toV,DC.toC,Ab,Ad]at V_;obtain⟨b,hb1,hv⟩:=V_;obtain⟨G',q1,b2,v,q2,q3,q4,q5⟩:=hR.extract hL hk (r:=d::st.pre) g3 g4;rw [hb1]at q2;injection q2 with q2;subst q2;obtain⟨dd,ti,hu',hd',_⟩:=C7 ht;refine⟨v,G',fun w' hS=>?_,?_⟩
     ·simp [execOp,hop,hv,DY hu' hd' (wz hS q3)]
     ·rw [hd];have aob:=R.put (d:=some d) q1 (show Ab w G' (V.c (C.e_ (d::st.pre))) v by simp only [Ab,Ad];exact⟨q4,q5⟩);refine aob.less ?_;rw [Af.h_];refine Cp.put (Lj ?_ ?_ ?_ ?_ ?_) _ _
      ·have:(Bp [(d::st.pre,DX.row F y)] ((st.E_ (pD (d::st.pre) id)).abn id (.deep E nn l (some (i,off))))).toSt.tm =(st.E_ (pD (d::st.pre) id)).toSt.tm :=by simp only [Af.toSt,s1,s4];rfl
       rw [this];exact k1
      ·have:(Bp [(d::st.pre,DX.row F y)] ((st.E_ (pD (d::st.pre) id)).abn id (.deep E nn l (some (i,off))))).toSt.gh =(st.E_ (pD (d::st.pre) id)).toSt.gh :=by simp only [Af.toSt,s2];rfl
       rw [this];exact k2
      ·intro z hz;rw [s5]at hz;simp only [map_cons,map_nil,List.singleton_append,mem_cons]at hz;simp only [St.b_,mem_cons,mem_map,mem_filter];rcases hz with rfl | hz
       ·exact .inl rfl
       ·right;obtain⟨e3,h1,rfl⟩:=mem_map.1 hz;rcases acd n1.ok.nd h1 with ⟨h1,h2⟩ | h1
        ·obtain⟨d3,h3,h4,h5⟩:=gM hw (mem_map.2 ⟨e3,h1,rfl⟩);have azr:d3.id ≠ id:=by grind [Aw.t_,DE.toE_id]
         refine⟨d3.b_ (pD (d::st.pre) id),⟨d3,(by grind [pD]),rfl⟩,?_⟩;grind [Eb,Aw.t_]
        ·subst h1;refine⟨e.toE.b_ (pD (d::st.pre) id),⟨e.toE,⟨mem_map.2 ⟨e,he1,rfl⟩,by grind⟩,rfl⟩,?_⟩;rw [Ec (by rw [Aw.t_,hE]),Aw.t_,Aw.agF,hE];rfl
      ·exact FH n3.ok
      ·rw [show (Bp [(d::st.pre,DX.row F y)] ((st.E_ (pD (d::st.pre) id)).abn id (.deep E nn l (some (i,off))))).toSt.pre =st.pre from by show (Bp _ _).pre =_;rw [s3];exact k4];rfl
    ·exact Yl.no
   ·exact Yl.no
  ·exact Yl.no
 ·exact Yl.no
end Go.PL
set_option linter.all false
namespace Go.PL
open Go Go.RowKit
variable {T:Bo}
def Af.acT (st:Af T) (p:Ah->Bool):Af T:=let s:=st.aeo (DV.f_ p) (fun _=> .u) (fun _=>false) id;{s with so:=s.so.filter fun e=> !(p e.id)&& !(e.x.f_ p)}
theorem ua: ∀ (l:List (DE T)) (n:Nat),Ru (fun _=>false) id n l=l
 | [],_=>rfl
 | e::r,n=>by simp only [Ru,ua r]
theorem az {p:Ah->Bool} (m n:Nat) (tm:Tm T): ∀ i,(AD m (QD (DV.f_ p) (fun _=> .u) n tm)).getD i .undef = .undef \/((AD m (QD (DV.f_ p) (fun _=> .u) n tm)).getD i .undef =(AD m tm).getD i .undef /\((AD m tm).getD i .undef).f_ p=false):=fun i=>by
 unfold AD;simp only [List.getD_eq_getElem?_getD,List.getElem?_map];by_cases hi:i<m
 ·rw [List.getElem?_range hi];simp only [Option.map_some,getD_some,M7 (p:=DV.f_ p) (f:=fun _=>DV.u) (by simp [DV.f_])];split
  ·grind [DV.toV]
  ·rename_i h;exact .inr ⟨rfl,DV.agB p _ h⟩
 grind
theorem dq (a b:List V) (i:Nat):(a++b).getD i .undef =if i<a.length then a.getD i .undef else b.getD (i - a.length) .undef :=by grind
theorem nK {p:Ah->Bool}: ∀ (l:List (Nat×Tm T)) (n:Nat),((Rt (DV.f_ p) (fun _=> .u) n l).flatMap fun f=>AD f.1 f.2).length =(l.flatMap fun f=>AD f.1 f.2).length /\ ∀ i,((Rt (DV.f_ p) (fun _=> .u) n l).flatMap fun f=>AD f.1 f.2).getD i .undef = .undef \/
 (((Rt (DV.f_ p) (fun _=> .u) n l).flatMap fun f=>AD f.1 f.2).getD i .undef =(l.flatMap fun f=>AD f.1 f.2).getD i .undef /\((l.flatMap fun f=>AD f.1 f.2).getD i .undef).f_ p=false)
 | [],_=>⟨rfl,fun i=> .inl rfl⟩
 | (m,tm)::r,n=>by
   obtain⟨h1,h2⟩:=nK r (n+tm.length);have hl:(AD m (QD (DV.f_ p) (fun _=> .u) n tm)).length =(AD m tm).length :=by rw [BB,BB]
   simp only [Rt,flatMap_cons];refine⟨by rw [length_append,length_append,h1,hl],fun i=>?_⟩;grind [dq,az]
theorem Ni {H:As T} {st:Af T} (h:AH H st) (p:Ah->Bool):(∃ H',Nx H st H' (st.acT p))/\(st.acT p).pre =st.pre/\(∀ e∈(st.acT p).so,e∈st.so/\p e.id=false/\e.x.f_ p=false):=by obtain⟨H',hN⟩:=Af.aeI (p:=DV.f_ p) (f:=fun _=> .u) (q:=fun _=>false) (g:=id) h (fun _=>by simp only [DV.ok]) (fun {x} hx=>hx);refine⟨⟨H',hN.ext,hN.le,Ep hN.ok _⟩,rfl,fun e he=>?_⟩;obtain⟨h1,h2⟩:=mem_filter.1 he;have h1:e∈Ru (fun _=>false) id (st.nx+st.tm.length+N8 st.gh) st.so:=h1;simp_all [ua]
theorem Xh {H H2:As T} {st:Af T} (hw:AH H st) {p:Ah->Bool} {id:Ah} {ns:List Ah} {x:DX T} (hid: ∀ n∈ns,p n=true) (hok:AH H2 ((st.acT p).abn id x)) {new:Aw} (aas:dm (id,x)=new):gB p id ns new st.toSt ((st.acT p).abn id x).toSt :=by
 refine⟨?_,fun i=>?_,?_,fun i=>?_,fun z hz=>?_,FH hok,rfl⟩
 ·show (AD _ _).length =(AD _ _).length;rw [BB,BB];rfl
 ·exact az st.m st.nx st.tm i
 ·exact(nK st.gh _).1
 ·exact(nK st.gh _).2 i
 ·obtain⟨e,he,rfl⟩:=mem_map.1 hz;obtain⟨⟨H1,n1⟩,_,k3⟩:=Ni hw p;rcases acd n1.ok.nd he with ⟨h1,h2⟩ | h1
  ·right;obtain⟨q1,q2,q3⟩:=k3 e h1;refine⟨mem_map.2 ⟨e,q1,rfl⟩,by rw [DE.toE_id];exact h2,fun hq=>?_,?_⟩
   ·grind [DE.toE_id]
   ·unfold DE.toE;cases hx:e.x with
    | box cs=>
      grind [DX.f_,Gn]
    | row E l=>grind
    | deep E n l h=>grind
  grind [tZ]
def Vs (rs:List Ah) (id i:Ah):Bool:=match rs with
 | []=>LM.aeK id i
 | r::rs=>match Bf i r with
   | true=>true
   | false=>Vs rs id i
theorem jS: ∀ {rs:List Ah} {id r:Ah},r∈rs-> ∀ i,pD r id i=true->Vs rs id i=true
 | [],_,_,h,_,_=>by cases h
 | x::rs,id,r,h,i,hi=>by
   unfold Vs;split
   ·rfl
   ·rename_i hb;rcases mem_cons.1 h with rfl | h
    ·simp only [pD,Bool.or_eq_true,beq_iff_eq]at hi;rcases hi with hi | hi
     ·grind [AN]
     ·have: ∀ rs:List Ah,Vs rs id i=true:=by intro rs;induction rs<;>grind [Vs,Li]
      grind
    ·exact jS h i hi
theorem YB: ∀ {rs:List Ah} {id r:Ah},r∈rs->Vs rs id r=true
 | x::rs,id,r,h=>by
   unfold Vs;split
   ·rfl
   ·rename_i hb;rcases mem_cons.1 h with rfl | h
    ·rw [AN.2 rfl]at hb;cases hb
    ·exact YB h
def Aff (h:Option (Int×Nat)) (i:Int):Option Unit:=match h with
 | none=>some ()
 | some (j,_)=>k_ (i=j)
def dsa (P:Program) (o:Oper) (st:Af T):M (Af T):=match o.op with
 | .store t x y=>match o.dst,st.arg [] x,st.arg [] y,K0 P t with
   | none,some (.c (.rp id N i off)),some (.c (.c (.e_ r))),some (false,1)=>match Kh st id,DG st r with
     | some ⟨E,(nn,l,h)⟩,some ⟨F,y⟩=>Tf (Fh id&&(Nat.beq N (T.sz E)&&(match h with | none=>true | some (_,o)=>Nat.beq o off))) (.opt (idx l i) fun x=> .opt (k_ (i<nn)) fun _=> .opt (Aff h i) fun _=>
      match GD F y (T.ks E) (T.un E x) off with
      | some z=> .ret ((st.acT (Vs [r] id)).abn id (.deep E nn (l.set i.toNat (T.bd E z)) none))
      | none=> .no)
     | _,_=> .no
   | _,_,_,_=> .no
 | _=> .no
theorem Afg {H:As T} {P:Program} {I:World->Prop} {st:Af T} (hw:AH H st) {o:Oper}:Yl (dsa P o st) (fun an=>(∃ H',Nx H st H' an)/\an.pre=st.pre/\ ∀ K:St->Prop,K an.toSt->DJ P I o st.toSt K):=by
 unfold dsa;split
 ·rename_i t x y hop;split
  ·rename_i id N i off r hd hx hy ht;split
   ·rename_i E nn l hh F yy hdr z_;refine Yl.Tf fun hg=>Yl.opt fun xx hxx=>Yl.opt fun u hu=>Yl.opt fun u2 hu2=>?_;simp only [and_eq_true,beq_eq]at hg;obtain⟨g1,g2,g3⟩:=hg;subst g2;split
    ·rename_i z hz;have hin:=Cm hu;obtain⟨i0,i1,hxi⟩:=Jl hxx;obtain⟨a1,a2,a3⟩:=Ht hw hx;obtain⟨b1,b2,b3⟩:=Ht hw hy;obtain⟨hmk,hlr,e,he1,he2,he3⟩:=B3 hdr;obtain⟨r1,_,er,r2,r3,r4⟩:=BN z_;obtain⟨hz1,acy⟩:=Nh hz;have hE:e.toE=⟨id,some (E,T.sz E,l.length),Bq T E nn l hh,true⟩:=by grind [DE.toE]
     have akk:T.aa4 E (T.bd E z)=(T.aa4 E xx).set off (.isl F (T.sz F) yy.length (yy.flatMap (T.enc F))):=by rw [Bo.aa4,T.afv,hz1];rfl
     have aiA:=RJ (n:=nn) (k:=0) (x':=T.bd E z) (c:= .isl F (T.sz F) yy.length (yy.flatMap (T.enc F))) (p:=off) hxi (by omega) akk acy;have hcells:(Bq T E nn l hh).set (i.toNat*T.sz E+off) (.isl F (T.sz F) yy.length (yy.flatMap (T.enc F)))=AC T E nn 0 (l.set i.toNat (T.bd E z)):=by
      rw [<-aiA];cases hh with
      | none=>rfl
      | some jo=>
        obtain⟨j,o2⟩:=jo;have g3:Nat.beq o2 off=true:=g3;have g3:=eq_of_beq_eq_true g3;have hho:i=j:=Cm hu2;grind [Bq,List.set_set]
     obtain⟨⟨H1,n1⟩,k2,k3⟩:=Ni hw (Vs [r] id);obtain⟨H2,n2⟩:=Af.abk n1.ok id (x:= .deep E nn (l.set i.toNat (T.bd E z)) none) trivial;refine Yl.ret ⟨⟨H2,n1.trans n2⟩,k2,fun K hK Fr a w G Q hI hR=>?_⟩;have hL:st.toSt.IN id=some e.toE:=hR.I_ (mem_map.2 ⟨e,he1,rfl⟩) (by rw [hE]) g1;have V_:=hR.arg rfl a2;rw [a3]at V_;simp only [DV.toV,DC.toC,Ab,Ad]at V_;obtain⟨b,hb1,hv⟩:=V_;have hyv:=hR.arg rfl b2;rw [b3]at hyv;simp only [DV.toV,DC.toC,Ab,Ad]at hyv;have hcl:(a.eval y).cells.toList =[a.eval y]:=by have:=hyv.2;cases hq:a.eval y<;>rw [hq]at this<;>first | rfl | cases this
     have hc:Aj w G [C.any] (a.eval y).cells.toList :=by simp_all [Aj,Ad]
     have hlen:e.toE.cs.length=l.length*T.sz E:=by grind [Ft]
     have au3:off<T.sz E:=acy;have hk:i.toNat*T.sz E+off<e.toE.cs.length:=by rw [hlen];have:(i.toNat+1)*T.sz E<=l.length*T.sz E:=mul_le_mul_right _ (by omega);grind
     obtain⟨cur,T',c1,c2,c3⟩:=hR.adg hL hb1 (off:=i.toNat*T.sz E+off) hc (by simp;omega) rfl rfl;have hs:=El (P:=P) ht c1 (by grind) c2 (Aj.one hc);have abH:(w.setRow b (cur.toList.take (i.toNat*T.sz E+off)++(a.eval y).cells.toList ++cur.toList.drop (i.toNat*T.sz E+off+(a.eval y).cells.toList.length)).toArray).cell? ⟨b,i.toNat*T.sz E+off,none⟩=some (a.eval y):=by
      have:=setRow_heap w b cur (cur.toList.take (i.toNat*T.sz E+off)++(a.eval y).cells.toList ++cur.toList.drop (i.toNat*T.sz E+off+(a.eval y).cells.toList.length)).toArray T' (0,0) c1;simp only [World.cell?,this];have hkl:(cur.toList.take (i.toNat*T.sz E+off)).length =i.toNat*T.sz E+off:=by grind
      simp_all
     generalize w.setRow b _=w1 at hs c3 abH;have q_:(execOp a.eval o).run P w= .ok .skip w1:=by simp_all [execOp]
     have hr1:er.toE=⟨r,some (F,T.sz F,yy.length),yy.flatMap (T.enc F),true⟩:=by rw [DE.toE_row r4,r3]
     have hrd:Fh r=false:=FG r1;have akf:r ≠ id:=(by grind);have akj: ∀ d∈st.toSt.so,d.id ≠ id->d∈(st.toSt.afw id e.toE.row (e.toE.cs.take (i.toNat*T.sz E+off)++[C.any]++e.toE.cs.drop (i.toNat*T.sz E+off+[C.any].length))).so :=fun d hd' Tj=>mem_map.2 ⟨d,hd',Eb Tj⟩;have hL2:(st.toSt.afw id e.toE.row (e.toE.cs.take (i.toNat*T.sz E+off)++[C.any]++e.toE.cs.drop (i.toNat*T.sz E+off+[C.any].length))).IN id=some ⟨id,e.toE.row,e.toE.cs.take (i.toNat*T.sz E+off)++[C.any]++e.toE.cs.drop (i.toNat*T.sz E+off+[C.any].length),true⟩:=by refine c3.I_ (mem_map.2 ⟨e.toE,mem_map.2 ⟨e,he1,rfl⟩,?_⟩) rfl g1;grind [Ec]
     have hLr:(st.toSt.afw id e.toE.row (e.toE.cs.take (i.toNat*T.sz E+off)++[C.any]++e.toE.cs.drop (i.toNat*T.sz E+off+[C.any].length))).look r=some er.toE:=
      c3.ad8 (akj _ (mem_map.2 ⟨er,r2,rfl⟩) (by grind)) (by grind) hrd (by grind)
     have hsl:(e.toE.cs.take (i.toNat*T.sz E+off)++[C.any]++e.toE.cs.drop (i.toNat*T.sz E+off+[C.any].length)).length =e.toE.cs.length:=by simp;omega
     obtain⟨G',q⟩:=c3.ahF (p:=Vs [r] id) [⟨i.toNat*T.sz E+off,r,F,T.sz F,yy.length,yy.flatMap (T.enc F)⟩] hL2 hb1 (fun ar har=>by
      rcases mem_singleton.1 har with rfl;exact⟨by rw [hLr,hr1];rfl,by grind,jS (by simp),_,abH,hyv.1⟩) (by simp) ((st.acT (Vs [r] id)).abn id (.deep E nn (l.set i.toNat (T.bd E z)) none)).toSt (by
      have aas:dm (id,(DX.deep E nn (l.set i.toNat (T.bd E z)) none:DX T))=⟨id,e.toE.row,I8 (e.toE.cs.take (i.toNat*T.sz E+off)++[C.any]++e.toE.cs.drop (i.toNat*T.sz E+off+[C.any].length)) [⟨i.toNat*T.sz E+off,r,F,T.sz F,yy.length,yy.flatMap (T.enc F)⟩],true⟩:=by
       show (⟨id,some (E,T.sz E,(l.set i.toNat (T.bd E z)).length),AC T E nn 0 (l.set i.toNat (T.bd E z)),true⟩:Aw)=_;have htl:(e.toE.cs.take (i.toNat*T.sz E+off)).length =i.toNat*T.sz E+off:=by grind
       simp only [I8,List.foldl_cons,List.foldl_nil,hE,length_set];congr 1;rw [<-hcells];apply List.ext_getElem?;intro j;have ayW:((Bq T E nn l hh).take (i.toNat*T.sz E+off)).length =i.toNat*T.sz E+off:=by grind
       have hkk:i.toNat*T.sz E+off<(Bq T E nn l hh).length :=by grind
       simp only [List.getElem?_set];by_cases hj:i.toNat*T.sz E+off=j
       ·grind
       ·rw [if_neg hj,if_neg hj,append_assoc];by_cases hjk:j<i.toNat*T.sz E+off
        ·grind
        ·rw [getElem?_append_right (by omega),ayW,getElem?_append_right (by simp;omega),List.getElem?_drop];grind
      have hB:=Xh (ns:=[r]) hw (p:=Vs [r] id) (fun n hn=>by rcases mem_singleton.1 hn with rfl;exact YB (by simp)) n2.ok aas;exact⟨hB.len,hB.tm,hB.aok,hB.gh,fun x hx=>(hB.so x hx).imp (fun q=>q) (by grind),hB.nd,hB.pre⟩)
     exact FP q_ (by rw [hd];exact⟨_,G',hK,q⟩)
    ·exact Yl.no
   ·exact Yl.no
  ·exact Yl.no
 ·exact Yl.no
end Go.PL
set_option linter.all false
namespace Go.PL
open Go Go.RowKit
variable {T:Bo}
theorem gN {E:Nat} {n n':Int}: ∀ {l:List (T.den E)} {k:Int},n<=k->n'<=k->AC T E n k l=AC T E n' k l
 | [],_,_,_=>rfl
 | x::l,k,h,h'=>by rw [AC,AC,if_neg (by omega),if_neg (by omega),gN (n':=n') (l:=l) (k:=k+1) (by omega) (by omega)]
theorem aA {E:Nat} {x':T.den E} {n:Int}: ∀ {l:List (T.den E)} {k:Int} {i:Nat},i<l.length->k+i=n->(AC T E n k l).take (i*T.sz E)++(T.aa4 E x'++(AC T E n k l).drop (i*T.sz E+T.sz E))=AC T E (n+1) k (l.set i x')
 | [],_,_,h,_=>by simp at h
 | y::l,k,0,h,hk=>by
   have hk:k=n:=by grind
   rw [List.set_cons_zero,AC,AC,if_neg (by omega),if_pos (by omega),Nat.zero_mul,zero_add,List.take_zero,nil_append,List.drop_append_of_le_length (by rw [AQ];exact le_refl _),List.drop_eq_nil_of_le (by rw [AQ];exact le_refl _),nil_append,gN (n':=n+1) (by omega) (by omega)]
 | y::l,k,i+1,h,hk=>by
   have hk':k<n:=by grind
   have e:(i+1)*T.sz E=T.sz E+i*T.sz E:=by rw [add_mul,one_mul,Nat.add_comm]
   rw [set_cons_succ,AC,AC,if_pos hk',if_pos (by omega),e, <-aA (l:=l) (k:=k+1) (by simpa using h) (by push_cast at hk;omega)];rw [List.take_append,List.drop_append,Eo,List.take_of_length_le (by rw [Eo];omega),List.drop_eq_nil_of_le (by rw [Eo];omega),nil_append];grind
def Oa:C->C
 | .e_ _=> .any
 | c=>c
def SU (st:Af T):(ks:List Kd)->List (DC T)->Option (DK T.den ks×List Ah)
 | [],[]=>some ((),[])
 | .l_ F::ks,c::cs=>match Le c with
   | some r=>match DG st r with
     | some ⟨F',l⟩=>match ax F F' l,SU st ks cs with
       | some l',some (y,rs)=>some ((l',y),r::rs)
       | _,_=>none
     | none=>none
   | none=>none
 | .int k::ks,c::cs=>match Ij false (.int k) c,SU st ks cs with
   | some x,some (y,rs)=>some ((x,y),rs)
   | _,_=>none
 | .bool ::ks,c::cs=>match Ij false .bool c,SU st ks cs with
   | some x,some (y,rs)=>some ((x,y),rs)
   | _,_=>none
 | .str ::ks,c::cs=>match Ij false .str c,SU st ks cs with
   | some x,some (y,rs)=>some ((x,y),rs)
   | _,_=>none
 | _,_=>none
structure Ab1 (st:Af T) (ks:List Kd) (cs:List (DC T)) (y:DK T.den ks) (rs:List Ah) (b:Nat) (ars:List AR):Prop where
 ids:ars.map (·.r)=rs
 len:cs.length=ks.length
 at_: ∀ x∈ars,st.toSt.look x.r=some x.ent/\b<=x.k/\x.k<b+ks.length/\(Ar cs)[x.k - b]? =some (.e_ x.r)
 ak9: ∀ pre post:List C,pre.length=b->I8 (pre++((Ar cs).map Oa++post)) ars=pre++(BR T ks y++post)
 pure:Ao ((Ar cs).map Oa)=true
 noi:((Ar cs).map Oa).all p9=true
theorem Ab1.sc {st:Af T} {ks:List Kd} {cs:List (DC T)} {y:DK T.den ks} {rs:List Ah} {b:Nat} {ars:List AR} (h:Ab1 st ks cs y rs (b+1) ars) (k:Kd) (x:P6 T.den k) (c:DC T) (hk:P7 k=true) (hc:c.toC=Bm T.enc k x):Ab1 st (k::ks) (c::cs) ((x,y):P6 T.den k×DK T.den ks) rs b ars:=by
 have hu:Oa c.toC=Zr T k x:=by rw [hc];cases k<;>first | rfl | cases hk
 have hp:(Zr T k x).pure =true/\p9 (Zr T k x)=true:=by cases k<;>first | exact⟨rfl,rfl⟩ | cases hk
 refine⟨h.ids,by simp [h.len],fun z hz=>?_,fun pre post hl=>?_,?_,?_⟩
 ·obtain⟨a1,a2,a3,a4⟩:=h.at_ z hz;grind [Ar]
 ·have:=h.ak9 (pre++[Zr T k x]) post (by simp [hl]);grind [Ar,BR]
 ·simp only [Ar,map_cons,Ao,and_eq_true];exact⟨by grind,h.pure⟩
 ·simp only [Ar,map_cons,all_cons,and_eq_true];exact⟨by grind,h.noi⟩
theorem JF {st:Af T}: ∀ {ks:List Kd} {cs:List (DC T)} {y:DK T.den ks} {rs:List Ah},SU st ks cs=some (y,rs)-> ∀ b:Nat, ∃ ars,Ab1 st ks cs y rs b ars
 | [],[],y,rs,h,b=>by simp only [SU,injEq]at h;injection h with h1 h2;subst h1 h2;exact⟨[],rfl,rfl,(by grind),(fun pre post _=>rfl),rfl,rfl⟩
 | [],_::_,_,_,h,_=>by simp [SU]at h
 | k::_,[],_,_,h,_=>by grind [SU]
 | .int k::ks,c::cs,y,rs,h,b=>by
   simp only [SU]at h;split at h
   ·rename_i x y' rs' h1 h2;injection h with h;injection h with e1 e2;subst e1 e2;obtain⟨ars,ha⟩:=JF h2 (b+1);exact⟨ars,ha.sc (.int k) x c rfl ((CB h1).2 rfl)⟩
   ·cases h
 | .bool ::ks,c::cs,y,rs,h,b=>by
   simp only [SU]at h;split at h
   ·rename_i x y' rs' h1 h2;injection h with h;injection h with e1 e2;subst e1 e2;obtain⟨ars,ha⟩:=JF h2 (b+1);exact⟨ars,ha.sc .bool x c rfl ((CB h1).2 rfl)⟩
   ·cases h
 | .str ::ks,c::cs,y,rs,h,b=>by
   simp only [SU]at h;split at h
   ·rename_i x y' rs' h1 h2;injection h with h;injection h with e1 e2;subst e1 e2;obtain⟨ars,ha⟩:=JF h2 (b+1);exact⟨ars,ha.sc .str x c rfl ((CB h1).2 rfl)⟩
   ·cases h
 | .l_ F::ks,c::cs,y,rs,h,b=>by
   simp only [SU]at h;split at h
   ·rename_i r ho;split at h
    ·rename_i F' l hr;split at h
     ·rename_i l' y' rs' h1 h2;injection h with h;injection h with e1 e2;subst e1 e2;obtain⟨e,rfl⟩:=Kr h1;subst e;obtain⟨ars,ha⟩:=JF h2 (b+1);obtain⟨q1,_,d,q2,q3,q4⟩:=BN hr;have hc:=Es ho;refine⟨⟨b,r,F',T.sz F',l.length,l.flatMap (T.enc F')⟩::ars,by simp [ha.ids],by simp [ha.len],fun z hz=>?_,fun pre post hl=>?_,?_,?_⟩
      ·rcases mem_cons.1 hz with rfl | hz
       ·refine⟨q1,le_refl _,by simp,?_⟩;rw [hc,Ar,Nat.sub_self];rfl
       ·obtain⟨a1,a2,a3,a4⟩:=ha.at_ z hz;grind [Ar]
      ·have:=ha.ak9 (pre++[.isl F' (T.sz F') l.length (l.flatMap (T.enc F'))]) post (by simp [hl]);have e1:I8 (pre++((Ar (c::cs)).map Oa++post)) (⟨b,r,F',T.sz F',l.length,l.flatMap (T.enc F')⟩::ars)=I8 ((pre++[.isl F' (T.sz F') l.length (l.flatMap (T.enc F'))])++((Ar cs).map Oa++post)) ars:=by unfold I8;simp_all [Ar]
       rw [e1,this];simp only [BR,append_assoc,List.singleton_append,cons_append];rfl
      ·simp only [Ar,map_cons,Ao,and_eq_true];rw [hc];exact⟨rfl,ha.pure⟩
      ·simp only [Ar,map_cons,all_cons,and_eq_true];rw [hc];exact⟨rfl,ha.noi⟩
     ·cases h
    ·cases h
   ·cases h
theorem aB {w:World} {G:AG}: ∀ {cs:List C} {vs:List Value},Aj w G cs vs->Aj w G (cs.map Oa) vs
 | [],[],_=>by simp [Aj]
 | [],_::_,h=>by grind
 | _::_,[],h=>by simp [Aj]at h
 | c::cs,v::vs,h=>by simp only [Aj,map_cons]at h ⊢;refine⟨?_,aB h.2⟩;cases c<;>first | exact h.1 | (simp only [Oa,Ad];exact h.1.one)
theorem aD {w:World} {G:AG}: ∀ {cs:List C} {vs:List Value} {k:Nat} {c:C},Aj w G cs vs->cs[k]? =some c-> ∃ v,vs[k]? =some v/\Ad w G c v
 | [],_,_,_,_,h=>by simp at h
 | _::_,[],_,_,h,_=>by simp [Aj]at h
 | d::cs,v::vs,0,c,h,hc=>by simp only [getElem?_cons_zero,injEq]at hc;subst hc;simp only [Aj]at h;grind
 | d::cs,v::vs,k+1,c,h,hc=>by simp only [Aj]at h;obtain⟨u,h1,h2⟩:=aD (k:=k) h.2 (by simpa using hc);exact⟨u,by simpa using h1,h2⟩
def dse (P:Program) (o:Oper) (st:Af T):M (Af T):=match o.op with
 | .store t x y=>match o.dst,st.arg [] x,st.arg [] y,K0 P t with
   | none,some (.c (.rp id N i 0)),some (.agg cs),some (_,n)=>match Kh st id with
     | some ⟨E,(nn,l,none)⟩=>match SU st (T.ks E) cs with
       | some (z,rs)=>Tf (Fh id&&(Nat.beq N (T.sz E)&&(Nat.beq n (T.sz E)&&M5 rs))) (.opt (idx l i) fun _=> .opt (k_ (i=nn)) fun _=>
        .ret ((st.acT (Vs rs id)).abn id (.deep E (nn+1) (l.set i.toNat (T.bd E z)) none)))
       | none=> .no
     | _=> .no
   | _,_,_,_=> .no
 | _=> .no
theorem Afh {H:As T} {P:Program} {I:World->Prop} {st:Af T} (hw:AH H st) {o:Oper}:Yl (dse P o st) (fun an=>(∃ H',Nx H st H' an)/\an.pre=st.pre/\ ∀ K:St->Prop,K an.toSt->DJ P I o st.toSt K):=by
 unfold dse;split
 ·rename_i t x y hop;split
  ·rename_i id N i cs ag n hd hx hy ht;split
   ·rename_i E nn l hdr;split
    ·rename_i z rs hea;refine Yl.Tf fun hg=>Yl.opt fun xx hxx=>Yl.opt fun u hu=>?_;simp only [and_eq_true,beq_eq]at hg;obtain⟨g1,g2,g3,g4⟩:=hg;subst g2 g3;have hin:i=nn:=Cm hu;obtain⟨i0,i1,hxi⟩:=Jl hxx;obtain⟨a1,a2,a3⟩:=Ht hw hx;obtain⟨b1,b2,b3⟩:=Ht hw hy;obtain⟨hmk,hlr,e,he1,he2,he3⟩:=B3 hdr;have hE:e.toE=⟨id,some (E,T.sz E,l.length),AC T E nn 0 l,true⟩:=by unfold DE.toE;rw [he3,he2];rfl
     obtain⟨ars,ha⟩:=JF hea (i.toNat*T.sz E);have hcl:cs.length=T.sz E:=ha.len;have ay3:=aA (x':=T.bd E z) (n:=nn) (l:=l) (k:=0) (i:=i.toNat) (by omega) (by omega);obtain⟨⟨H1,n1⟩,k2,k3⟩:=Ni hw (Vs rs id);obtain⟨H2,n2⟩:=Af.abk n1.ok id (x:= .deep E (nn+1) (l.set i.toNat (T.bd E z)) none) trivial;refine Yl.ret ⟨⟨H2,n1.trans n2⟩,k2,fun K hK Fr a w G Q hI hR=>?_⟩;have hL:st.toSt.IN id=some e.toE:=hR.I_ (mem_map.2 ⟨e,he1,rfl⟩) (by rw [hE]) g1;have V_:=hR.arg rfl a2;rw [a3]at V_;simp only [DV.toV,DC.toC,Ab,Ad,add_zero]at V_;obtain⟨b,hb1,hv⟩:=V_;have hyv:=hR.arg rfl b2;rw [b3]at hyv;simp only [DV.toV,Ab]at hyv;obtain⟨arr,hyv,hcs⟩:=hyv;have hvl:(a.eval y).cells.toList =arr.toList:=by rw [hyv];rfl
     have hlen:e.toE.cs.length=l.length*T.sz E:=by grind [Ki]
     have hle:i.toNat*T.sz E+T.sz E<=e.toE.cs.length:=by rw [hlen];have:(i.toNat+1)*T.sz E<=l.length*T.sz E:=mul_le_mul_right _ (by omega);grind
     have hxl:((Ar cs).map Oa).length =T.sz E:=by simp [hcl,AM]
     have hal:arr.toList.length=T.sz E:=by rw [<-hcs.length,AM,hcl]
     have hc:Aj w G ((Ar cs).map Oa) (a.eval y).cells.toList :=by grind [aB]
     obtain⟨cur,T',c1,c2,c3⟩:=hR.adg hL hb1 (off:=i.toNat*T.sz E) hc (by omega) ha.pure ha.noi;have hs:=El (P:=P) ht c1 (by grind) c2 (Aj.one hc);rw [hvl]at hs c2 c3;have abH: ∀ j v,arr.toList[j]? =some v->(w.setRow b (cur.toList.take (i.toNat*T.sz E)++arr.toList++cur.toList.drop (i.toNat*T.sz E+arr.toList.length)).toArray).cell? ⟨b,i.toNat*T.sz E+j,none⟩=some v:=by intro j v hj;have:=setRow_heap w b cur (cur.toList.take (i.toNat*T.sz E)++arr.toList++cur.toList.drop (i.toNat*T.sz E+arr.toList.length)).toArray T' (0,0) c1;simp only [World.cell?,this];grind
     generalize w.setRow b _=w1 at hs c3 abH;have q_:(execOp a.eval o).run P w= .ok .skip w1:=by simp_all [execOp]
     have akj: ∀ d∈st.toSt.so,d.id ≠ id->d∈(st.toSt.afw id e.toE.row (e.toE.cs.take (i.toNat*T.sz E)++(Ar cs).map Oa++e.toE.cs.drop (i.toNat*T.sz E+((Ar cs).map Oa).length))).so :=fun d hd' Tj=>mem_map.2 ⟨d,hd',Eb Tj⟩;have hL2:(st.toSt.afw id e.toE.row (e.toE.cs.take (i.toNat*T.sz E)++(Ar cs).map Oa++e.toE.cs.drop (i.toNat*T.sz E+((Ar cs).map Oa).length))).IN id=some ⟨id,e.toE.row,e.toE.cs.take (i.toNat*T.sz E)++(Ar cs).map Oa++e.toE.cs.drop (i.toNat*T.sz E+((Ar cs).map Oa).length),true⟩:=by refine c3.I_ (mem_map.2 ⟨e.toE,mem_map.2 ⟨e,he1,rfl⟩,?_⟩) rfl g1;grind [Ec]
     have htl:(e.toE.cs.take (i.toNat*T.sz E)).length =i.toNat*T.sz E:=by grind
     have hsl:(e.toE.cs.take (i.toNat*T.sz E)++(Ar cs).map Oa++e.toE.cs.drop (i.toNat*T.sz E+((Ar cs).map Oa).length)).length =e.toE.cs.length:=by grind
     obtain⟨G',q⟩:=c3.ahF (p:=Vs rs id) ars hL2 hb1 (fun ar har=>by
      obtain⟨p1,p2,p3,p4⟩:=ha.at_ ar har;obtain⟨hmr,ag3⟩:=Bj p1;have hnd:=FG p1;have akf:ar.r ≠ id:=(by grind);obtain⟨v,v1,v2⟩:=aD hcs p4;simp only [Ad]at v2;refine⟨c3.ad8 (by grind) ag3 hnd rfl,by grind,jS (by rw [<-ha.ids];grind),v,?_,v2.1⟩;grind) (by rw [ha.ids];exact Ii g4) ((st.acT (Vs rs id)).abn id (.deep E (nn+1) (l.set i.toNat (T.bd E z)) none)).toSt (by
      have aas:dm (id,(DX.deep E (nn+1) (l.set i.toNat (T.bd E z)) none:DX T))=⟨id,e.toE.row,I8 (e.toE.cs.take (i.toNat*T.sz E)++(Ar cs).map Oa++e.toE.cs.drop (i.toNat*T.sz E+((Ar cs).map Oa).length)) ars,true⟩:=by
       show (⟨id,some (E,T.sz E,(l.set i.toNat (T.bd E z)).length),AC T E (nn+1) 0 (l.set i.toNat (T.bd E z)),true⟩:Aw)=_;rw [append_assoc,ha.ak9 _ _ htl,hxl, <-ay3];simp only [hE,length_set];congr 1;have:T.aa4 E (T.bd E z)=BR T (T.ks E) z:=by rw [Bo.aa4,T.afv]
       rw [this]
      have hB:=Xh (ns:=ars.map (·.r)) hw (p:=Vs rs id) (fun n hn=>by rw [ha.ids]at hn;exact YB hn) n2.ok aas;exact⟨hB.len,hB.tm,hB.aok,hB.gh,fun x hx=>(hB.so x hx).imp (fun q=>q) (by grind),hB.nd,hB.pre⟩)
     exact FP q_ (by rw [hd];exact⟨_,G',hK,q⟩)
    ·exact Yl.no
   ·exact Yl.no
  ·exact Yl.no
 ·exact Yl.no
end Go.PL
set_option linter.all false
namespace Go.PL
open Go Go.RowKit
variable {T:Bo}
def SV (st:Af T):Option Operand->Option (Option Int)
 | none=>some none
 | some x=>match st.arg [] x with
   | some (.c (.k (.int _) i))=>some (some i)
   | _=>none
theorem Hz {H:As T} {st:Af T} (hw:AH H st) {x:Option Operand} {i:Option Int} (h:SV st x=some i) {F:Fr} {a:Act} {w:World} {G:AG} (hR:R F st.toSt a w G): ∃ k:IntKind,x.map a.eval=i.map (Value.int k):=by
 cases x with
 | none=>simp only [SV,injEq]at h;subst h;simp_all
 | some x=>
   simp only [SV]at h;split at h
   ·rename_i k j hx;injection h with h;subst h;obtain⟨a1,a2,a3⟩:=Ht hw hx;have V_:=hR.arg rfl a2;rw [a3]at V_;simp only [DV.toV,DC.toC,Bm,Ab,Ad]at V_;grind
   ·cases h
theorem ub {P:Program} (len cap:Nat) (k1 k2 k3:IntKind) (lo hi mx:Option Int) (hm:mx.isSome=true->hi.isSome=true) (h1:0<=lo.getD 0) (h2:lo.getD 0<=hi.getD len) (h3:hi.getD len<=mx.getD cap) (h4:mx.getD cap<=cap) (w:World):
 (Instr.sliceBounds true len cap (lo.map (Value.int k1)) (hi.map (Value.int k2)) (mx.map (Value.int k3))).run P w= .ok ((lo.getD 0).toNat,(hi.getD len).toNat,(mx.getD cap).toNat) w:=by
 have e1: ∀ code,mx.isSome=true->(Instr.sliceBound (.int k3 (mx.getD cap)) cap code).run P w= .ok (mx.getD cap).toNat w:=(by grind [Tc]);have e2: ∀ code,(Instr.sliceBound (.int k2 (hi.getD len)) (mx.getD cap).toNat code).run P w= .ok (hi.getD len).toNat w:=(by grind [Tc]);have e3: ∀ code,(Instr.sliceBound (.int k1 (lo.getD 0)) (hi.getD len).toNat code).run P w= .ok (lo.getD 0).toNat w:=(by grind [Tc]);cases lo<;>cases hi<;>cases mx<;>simp only [getD_some,getD_none,Option.isSome_some,Option.isSome_none,Bool.false_eq_true,forall_const,imp_self,toNat_natCast]at hm e1 e2 e3 ⊢ <;>simp [Instr.sliceBounds,e1,e2,e3]
 all_goals first | rfl | (exact absurd hm (by simp))
def Ab2 (P:Program) (o:Oper) (md:Bool) (st:Af T):M (Af T):=match o.op with
 | .slice t x lo hi mx=>match o.dst,st.arg [] x,Dk P t with
   | some d,some (.c (.c (.e_ id))),some (_,n)=>match DG st id,SV st lo,SV st hi,SV st mx with
     | some ⟨E,l⟩,some lo',some hi',some mx'=>Tf (Nat.beq n (T.sz E)&&(mx'.isNone||hi'.isSome)) (match md with
       | true=>Tf mx'.isNone (.opt (k_ (0<=lo'.getD 0/\lo'.getD 0<=hi'.getD (l.length:Nat)/\hi'.getD (l.length:Nat)<=(l.length:Nat)/\0<l.length)) fun _=> .ret (st.put (some d) (.c (.bs id E (lo'.getD 0) (hi'.getD (l.length:Nat) - lo'.getD 0)))))
       | false=> .opt (k_ (0<=lo'.getD 0/\lo'.getD 0<=hi'.getD (l.length:Nat)/\hi'.getD (l.length:Nat)<=mx'.getD (l.length:Nat)/\mx'.getD (l.length:Nat)<=(l.length:Nat))) fun _=> .ret (st.put (some d) (.c (.c .any))))
     | _,_,_,_=> .no
   | some d,some (.c (.bs id E0 o0 n0)),some (_,n)=>match DG st id,SV st lo,SV st hi,SV st mx with
     | some ⟨E,l⟩,some lo',some hi',some none=>Tf (Nat.beq n (T.sz E)&&Nat.beq E0 E) (.opt (k_ (o0=0/\0<=lo'.getD 0/\lo'.getD 0<=hi'.getD (n0.toNat:Nat)/\hi'.getD (n0.toNat:Nat)<=(l.length:Nat)/\0<l.length)) fun _=> .ret (st.put (some d) (.c (.bs id E (lo'.getD 0) (hi'.getD (n0.toNat:Nat) - lo'.getD 0)))))
     | _,_,_,_=> .no
   | _,_,_=> .no
 | _=> .no
theorem R.ac5 {F:Fr} {st:Af T} {a:Act} {w:World} {G:AG} (hR:R F st.toSt a w G) {id:Ah} {E:Nat} {l:List (T.den E)} (h:DG st id=some ⟨E,l⟩): ∃ v,G.own id=some v/\((∃ p,v= .slice p 0 0/\l.length=0)\/
 ∃ b cap cur,v= .slice (some ⟨b,0,none⟩) l.length cap/\G.m_ id=some b/\w.heap[b]? =some (.cells cur E (0,0))/\l.length<=cap/\cap<=maxLen/\cur.size=cap*T.sz E/\An w G (l.flatMap (T.enc E)) b 0):=by
 obtain⟨h1,_⟩:=BN h;obtain⟨hm,_⟩:=Bj h1;have hE:=hR.store _ hm;unfold Bc at hE;obtain⟨_,v,e1,e2⟩:=hE;refine⟨v,e1,?_⟩;rcases e2 with ⟨p,q1,q2,_⟩ | ⟨b,cap,cur,q1,q2,q3,q4,q5,q6,q7⟩
 ·grind
 ·exact .inr ⟨b,cap,cur,q1,q2,q3,q4,q5,q6,q7⟩
theorem uc {H:As T} {P:Program} {I:World->Prop} {st:Af T} (hw:AH H st) {o:Oper} {md:Bool}:Yl (Ab2 P o md st) (fun an=>(∃ H',Nx H st H' an)/\an.pre=st.pre/\Yld P I o st.toSt an.toSt):=by
 unfold Ab2;split
 ·rename_i t x lo hi mx hop;split
  ·rename_i d id e n hd hx ht;split
   ·rename_i E l lo' hi' mx' hr q1 q2 q3;refine Yl.Tf fun hg=>?_;simp only [and_eq_true,beq_eq,Bool.or_eq_true]at hg;obtain⟨g1,g2⟩:=hg;obtain⟨a1,a2,a3⟩:=Ht hw hx;obtain⟨hu,inf,hi1,hsz⟩:=DI ht;have hm:mx'.isSome=true->hi'.isSome=true:=fun q=>by
     rcases g2 with g2 | g2
     all_goals simp_all
    have run: ∀ {F:Fr} {a:Act} {w:World} {G:AG},R F st.toSt a w G-> ∀ len cap (ad:Option Addr),a.eval x= .slice ad len cap->0<=lo'.getD 0->lo'.getD 0<=hi'.getD len->hi'.getD len<=mx'.getD cap->mx'.getD cap<=cap-> ∀ w',(execOp a.eval o).run P w'= .ok (.value (.slice (if(mx'.getD cap).toNat =(lo'.getD 0).toNat then ad else ad.map (·.add ((lo'.getD 0).toNat *n))) ((hi'.getD len).toNat - (lo'.getD 0).toNat) ((mx'.getD cap).toNat - (lo'.getD 0).toNat))) w':=by intro F a w G hR len cap ad hv b1 b2 b3 b4 w';obtain⟨k1,e1⟩:=Hz hw q1 hR;obtain⟨k2,e2⟩:=Hz hw q2 hR;obtain⟨k3,e3⟩:=Hz hw q3 hR;have hs:=ub (P:=P) len cap k1 k2 k3 lo' hi' mx' hm b1 b2 b3 b4 w';simp [execOp,hop,e1,e2,e3,hv,Instr.sliceAt,Instr.slice,Sem.run_bind,run_underlying hu,hs,sizeOf,typeInfo,program,Sem.run,hi1,hsz]
    split
    ·refine Yl.Tf fun hmx=>Yl.opt fun u hn=>Yl.ret ?_;have hn:=Cm hn;have hmx:mx'=none:=by simp_all
     subst hmx;obtain⟨H1,n1⟩:=Af.aao hw (some d) (v:= .c (.bs id E (lo'.getD 0) (hi'.getD (l.length:Nat) - lo'.getD 0))) (by grind [DV.ok,DC.ok]);refine⟨⟨H1,n1⟩,AS _ _ _,fun Fr a w G hI hR=>?_⟩;have V_:=hR.arg rfl a2;rw [a3]at V_;simp only [DV.toV,DC.toC,Ab,Ad]at V_;obtain⟨v,v1,v2⟩:=hR.ac5 hr;rw [V_.1]at v1;injection v1 with v1;rcases v2 with ⟨p,_,v2⟩ | ⟨b,cap,cur,rfl,v3,v4,v5,v6,v7,v8⟩
     ·omega
     ·have hs:=run hR l.length cap _ v1 hn.1 hn.2.1 (by simp only [getD_none];omega) (by simp);refine⟨_,G,fun w' _=>hs w',?_⟩;rw [hd,Af.h_];refine hR.put ?_;simp only [DV.toV,DC.toC,Ab,Ad];refine⟨b,l.length,cap,(if cap=(lo'.getD 0).toNat then 0 else(lo'.getD 0).toNat *n),cap - (lo'.getD 0).toNat,by grind,?_,?_,by omega,fun hlt=>?_⟩
      ·simp only [getD_none,toNat_natCast];grind [Addr.add_mid]
      all_goals grind
    ·refine Yl.opt fun u hn=>Yl.ret ?_;have hn:=Cm hn;obtain⟨H1,n1⟩:=Af.aao hw (some d) (v:= .c (.c .any)) (by simp only [DV.ok,DC.ok]);refine⟨⟨H1,n1⟩,AS _ _ _,fun Fr a w G hI hR=>?_⟩;have V_:=hR.arg rfl a2;rw [a3]at V_;simp only [DV.toV,DC.toC,Ab,Ad]at V_;obtain⟨v,v1,v2⟩:=hR.ac5 hr;rw [V_.1]at v1;injection v1 with v1;have hsl: ∃ ad cap,a.eval x= .slice ad l.length cap/\l.length<=cap:=by grind
     obtain⟨ad,cap,hsl,hlc⟩:=hsl;have hs:=run hR l.length cap ad hsl hn.1 hn.2.1 (by
      cases mx'<;>grind) (by
      cases mx'<;>grind)
     refine⟨_,G,fun w' _=>hs w',?_⟩;rw [hd,Af.h_];refine hR.put ?_;simp only [DV.toV,DC.toC,Ab,Ad];rfl
   ·exact Yl.no
  ·rename_i d id E0 o0 n0 e n hd hx ht;split
   ·rename_i E l lo' hi' hr q1 q2 q3;refine Yl.Tf fun hg=>Yl.opt fun u hn=>Yl.ret ?_;simp only [and_eq_true,beq_eq]at hg;obtain⟨g1,g2⟩:=hg;subst g2;have hn:=Cm hn;obtain⟨a1,a2,a3⟩:=Ht hw hx;simp only [DV.ok,DC.ok]at a1;obtain⟨hu,inf,hi1,hsz⟩:=DI ht;obtain⟨H1,n1⟩:=Af.aao hw (some d) (v:= .c (.bs id E0 (lo'.getD 0) (hi'.getD (n0.toNat:Nat) - lo'.getD 0))) (by grind [DV.ok,DC.ok]);refine⟨⟨H1,n1⟩,AS _ _ _,fun Fr a w G hI hR=>?_⟩;have V_:=hR.arg rfl a2;rw [a3]at V_;simp only [DV.toV,DC.toC,Ab,Ad]at V_;obtain⟨b1,ahY,aiP,o1,ab7,x1,x2,x3,x4,x5⟩:=V_;obtain⟨v,v1,v2⟩:=hR.ac5 hr;rw [x1]at v1;injection v1 with v1;rcases v2 with ⟨p,_,v2⟩ | ⟨b,cap,cur,q,v3,v4,v5,v6,v7,v8⟩
    ·omega
    ·rw [q]at v1;injection v1 with z1 z2 z3;injection z1 with z1;injection z1 with z1;subst z1 z2 z3;have ho1:o1=0:=by grind
     subst ho1;have hc1:ab7=aiP:=by grind
     subst hc1;obtain⟨k1,e1⟩:=Hz hw q1 hR;obtain⟨k2,e2⟩:=Hz hw q2 hR;obtain⟨k3,e3⟩:=Hz hw q3 hR;have hs:=fun w'=>ub (P:=P) n0.toNat ab7 k1 k2 k3 lo' hi' none (by simp) hn.2.1 hn.2.2.1 (by simp only [getD_none];omega) (by simp) w';refine⟨.slice (if ab7=(lo'.getD 0).toNat then some ⟨b1,0,none⟩else(some (⟨b1,0,none⟩:Addr)).map (·.add ((lo'.getD 0).toNat *n))) ((hi'.getD (n0.toNat:Nat)).toNat - (lo'.getD 0).toNat) (ab7 - (lo'.getD 0).toNat),G,fun w' _=>?_,?_⟩
     ·have hsw:=hs w';simp only [getD_none,toNat_natCast,Option.map_none]at hsw e3;simp [execOp,hop,e1,e2,e3,x2,Instr.sliceAt,Instr.slice,Sem.run_bind,run_underlying hu,hsw,sizeOf,typeInfo,program,Sem.run,hi1,hsz]
     ·rw [hd,Af.h_];refine hR.put ?_;simp only [DV.toV,DC.toC,Ab,Ad];refine⟨b1,l.length,ab7,(if ab7=(lo'.getD 0).toNat then 0 else(lo'.getD 0).toNat *n),ab7 - (lo'.getD 0).toNat,x1,?_,?_,by omega,fun hlt=>?_⟩
      ·grind [Addr.add_mid]
      all_goals grind
   ·exact Yl.no
  ·exact Yl.no
 ·exact Yl.no
end Go.PL
set_option linter.all false
namespace Go.PL
open Go Go.RowKit
variable {T:Bo}
theorem aE {α:Type} {f:α->List C} {n:Nat} (hf: ∀ x,(f x).length =n) (l:List α):(l.flatMap f).length =l.length*n:=BQ hf l
theorem R.agX {F:Fr} {st:Af T} {H:As T} {a:Act} {w:World} {G:AG} (hR:R F st.toSt a w G) (hw:AH H st) {id:Ah} {E:Nat} {l m:List (T.den E)} (h:DG st id=some ⟨E,l⟩) {b:Nat} (hb:G.m_ id=some b) {off:Nat} {xs:List C} {vs:List Value} (hx:Aj w G xs vs) (hp:Ao xs=true) (hml:m.length=l.length)
 (hm:(l.flatMap (T.enc E)).take off++xs++(l.flatMap (T.enc E)).drop (off+xs.length)=m.flatMap (T.enc E)) (acy:off+xs.length<=l.length*T.sz E):
 ∃ cur T',w.heap[b]? =some (.cells cur T' (0,0))/\off+vs.length<=cur.size/\R F (st.abn id (.row E m)).toSt a (w.setRow b (cur.toList.take off++vs++cur.toList.drop (off+vs.length)).toArray) G:=by
 obtain⟨h1,_,e,e1,e2,e3⟩:=BN h;obtain⟨cur,T',c1,c2,c3⟩:=hR.stored h1 hb (off:=off) hx (by grind [aE,AQ]);refine⟨cur,T',c1,c2,?_⟩;have:=Af.afp hw e1 e2 (x:= .row E m) (cs:=m.flatMap (T.enc E)) (q:=Ao xs) (by
  rw [DE.toE_row e3,e2,hp];show (⟨id,some (E,T.sz E,l.length),m.flatMap (T.enc E),true&&true⟩:Aw)=⟨id,some (E,T.sz E,m.length),m.flatMap (T.enc E),true⟩;rw [hml];rfl)
 grind
def Afi (P:Program) (o:Oper) (st:Af T):M (Af T):=match o.op with
 | .call c=>match c.callee,c.args.toList,c.argTypes.toList with
   | .builtin .clear,[x],[t]=>match st.arg [] x,Dk P t with
     | some (.c (.bs id E0 o0 n0)),some (e,n)=>match DG st id,Rx P e with
       | some ⟨E,l⟩,some z=>match xp false E z with
         | some z0=>Tf (Nat.beq n (T.sz E)&&(Nat.beq z.length n&&(Nat.beq E0 E&&Nat.blt 0 n))) (.opt (k_ (o0+n0<=(l.length:Nat)/\0<l.length)) fun _=>
          .ret ((st.abn id (.row E (l.take o0.toNat++(List.replicate n0.toNat z0++l.drop (o0.toNat+n0.toNat))))).put o.dst (.tup [])))
         | none=> .no
       | _,_=> .no
     | _,_=> .no
   | _,_,_=> .no
 | _=> .no
theorem RK {α:Type} {f:α->List C} (z:α): ∀ n:Nat,(List.replicate n z).flatMap f=Cj (f z) n
 | 0=>by simp [Cj]
 | n+1=>by rw [List.replicate_succ,flatMap_cons,RK z n,WK]
theorem Ab3 {H:As T} {P:Program} {I:World->Prop} {st:Af T} (hw:AH H st) {o:Oper}:Yl (Afi P o st) (fun an=>(∃ H',Nx H st H' an)/\an.pre=st.pre/\ ∀ K:St->Prop,K an.toSt->DJ P I o st.toSt K):=by
 unfold Afi;split
 ·rename_i c hop;split
  ·rename_i x t aev ab9 alC;split
   ·rename_i id E0 o0 n0 e n hx ht;split
    ·rename_i E l z hr hz;split
     ·rename_i z0 hz0;refine Yl.Tf fun hg=>Yl.opt fun u hn=>Yl.ret ?_;simp only [and_eq_true,beq_eq,Nat.blt_eq]at hg;obtain⟨g1,g2,g3,g4⟩:=hg;subst g1 g3;have hn:=Cm hn;obtain⟨a1,a2,a3⟩:=Ht hw hx;simp only [DV.ok,DC.ok]at a1;obtain⟨hu,inf,hi1,hsz⟩:=DI ht;obtain⟨z1,z2⟩:=Ip hz;obtain⟨aGm,zv,hi2,hzv,hzc⟩:=Hj z1;rw [hi1]at hi2;injection hi2 with hi2;subst hi2;have hzE:Ar z=T.enc E0 z0:=(Ik hz0).2 rfl;obtain⟨H1,n1⟩:=Af.abk hw id (x:= .row E0 (l.take o0.toNat++(List.replicate n0.toNat z0++l.drop (o0.toNat+n0.toNat)))) trivial;obtain⟨H2,n2⟩:=Af.D_ n1 o.dst (v:= .tup []) (by simp [DV.ok,CX]);refine⟨⟨H2,n2⟩,by rw [AS];rfl,fun K hK Fr a w G Q hI hR=>?_⟩;have V_:=hR.arg rfl a2;rw [a3]at V_;simp only [DV.toV,DC.toC,Ab,Ad]at V_;obtain⟨b1,ahY,aiP,o1,ab7,x1,x2,x3,x4,x5⟩:=V_;obtain⟨v,v1,v2⟩:=hR.ac5 hr;rw [x1]at v1;injection v1 with v1;rcases v2 with ⟨p,_,v2⟩ | ⟨b,cap,cur,q,v3,v4,v5,v6,v7,v8⟩
      ·omega
      rw [q]at v1;injection v1 with y1 y2 y3;injection y1 with y1;injection y1 with y1;subst y1 y2 y3;have hzz:Aj w G (Cj (T.enc E0 z0) n0.toNat) (Builtin.zeroCells zv.cells n0.toNat).toList :=by have hzl:=FN (w:=w) (G:=G) hzc;rw [hzE]at hzl;exact Md hzl (by rw [AQ];exact g4) n0.toNat
      have hlen:(Cj (T.enc E0 z0) n0.toNat).length =n0.toNat*T.sz E0:=by rw [<-RK,aE (fun y=>AQ E0 y),List.length_replicate]
      have hle:o0.toNat*T.sz E0+n0.toNat*T.sz E0<=l.length*T.sz E0:=by rw [<-add_mul];exact mul_le_mul_right _ (by omega)
      obtain⟨adG,T',c1,c2,c3⟩:=R.agX (m:=l.take o0.toNat++(List.replicate n0.toNat z0++l.drop (o0.toNat+n0.toNat))) hR hw hr v3 (off:=o0.toNat*T.sz E0) hzz (WC (by rw [<-hzE];have:=Dh (T:=T) (.s E0) z0;grind [Ev,V.pure]) _) (by simp;omega) (by
       rw [hlen,flatMap_append,flatMap_append,RK, <-Hp (fun y=>AQ E0 y), <-Jy (fun y=>AQ E0 y),append_assoc,add_mul]) (by grind)
      have ea:c.args= #[x]:=by grind
      have et:c.argTypes= #[t]:=by grind
      have hzr:(zeroValue e).run P w= .ok zv w:=by simp_all [zeroValue,typeInfo]
      have acW:=Aj.one hzz;by_cases h0:n0.toNat=0
      ·have an8:(Builtin.zeroCells zv.cells n0.toNat).toList =[]:=by rw [h0];simp [Builtin.zeroCells]
       have q_:(execOp a.eval o).run P w= .ok (.value (.tuple #[])) w:=by simp_all [execOp,resolve,invoke,builtin,Builtin.clear_,run_underlying]
       rw [an8]at c3;have aqE:w.setRow b1 (adG.toList.take (o0.toNat*T.sz E0)++([]:List Value)++adG.toList.drop (o0.toNat*T.sz E0+([]:List Value).length)).toArray =w:=by simp only [append_nil,List.length_nil,add_zero,List.take_append_drop,Array.toArray_toList];exact setRow_self w b1 adG T' (0,0) c1
       rw [aqE]at c3;exact AJ q_ ⟨_,G,hK,by rw [Af.h_];exact c3.put (by simp only [DV.toV,Bg,Ab,Aq];grind)⟩
      ·have ho1:o1=o0.toNat*T.sz E0:=x5 (by omega);have hst:=run_storeCells_at P b1 (o0.toNat*T.sz E0) T' (Builtin.zeroCells zv.cells n0.toNat).toList 0 adG w c1 (by grind) acW;simp only [add_zero]at hst;generalize hw1:w.setRow b1 _=w1 at hst c3;have q_:(execOp a.eval o).run P w= .ok (.value (.tuple #[])) w1:=by have h0':n0.toNat ≠ 0:=h0;obtain⟨k,hk⟩:=Nat.exists_eq_succ_of_ne_zero h0';rw [hk]at hst;simp [execOp,hop,resolve,aev,ea,et,invoke,builtin,Builtin.clear_,Sem.run_bind,run_underlying hu,x2,hk,hzr,ho1,hst]
       exact AJ q_ ⟨_,G,hK,by rw [Af.h_];exact c3.put (by simp only [DV.toV,Bg,Ab,Aq];grind)⟩
     ·exact Yl.no
    ·exact Yl.no
   ·exact Yl.no
  ·exact Yl.no
 ·exact Yl.no
def Afj (P:Program) (o:Oper) (st:Af T):M (Af T):=match o.op with
 | .call c=>match o.dst,c.callee,c.args.toList,c.argTypes.toList with
   | some d, .builtin .append,[x,y],[t,t']=>match st.arg [] x,st.arg [] y,Dk P t with
     | some (.c (.bs id E0 o0 i)),some (.c (.bs id2 E2 j m)),some (e,n)=>match DG st id with
       | some ⟨E,l⟩=>Tf ((Bf id2 id&&(Nat.beq t t'&&Nat.beq e E))&&(Nat.beq n (T.sz E)&&(Nat.beq E0 E&&Nat.beq E2 E))) (.opt (k_ (o0=0/\i+m<=(l.length:Nat)/\j+m<=(l.length:Nat)/\0<l.length)) fun _=>
        .ret ((st.abn id (.row E (l.take i.toNat++((l.drop j.toNat).take m.toNat++l.drop (i.toNat+m.toNat))))).put (some d) (.c (.bs id E 0 (i+m)))))
       | none=> .no
     | _,_,_=> .no
   | _,_,_,_=> .no
 | _=> .no
theorem Ab4 {H:As T} {P:Program} {I:World->Prop} {st:Af T} (hw:AH H st) {o:Oper}:Yl (Afj P o st) (fun an=>(∃ H',Nx H st H' an)/\an.pre=st.pre/\ ∀ K:St->Prop,K an.toSt->DJ P I o st.toSt K):=by
 unfold Afj;split
 ·rename_i c hop;split
  ·rename_i d x y t t' hd aev ab9 alC;split
   ·rename_i id E0 o0 i id2 E2 j m e n hx hy ht;split
    ·rename_i E l hr;refine Yl.Tf fun hg=>Yl.opt fun u hn=>Yl.ret ?_;simp only [and_eq_true,beq_eq]at hg;obtain⟨⟨g0,gt,ge⟩,g1,g2,g3⟩:=hg;have g0:=(AN.1 g0).symm;subst g0 gt g1 g2 g3 ge;have hn:=Cm hn;obtain⟨a1,a2,a3⟩:=Ht hw hx;obtain⟨b1,b2,b3⟩:=Ht hw hy;simp only [DV.ok,DC.ok]at a1 b1;obtain⟨hu,inf,hi1,hsz⟩:=DI ht;obtain⟨H1,n1⟩:=Af.abk hw id (x:= .row e (l.take i.toNat++((l.drop j.toNat).take m.toNat++l.drop (i.toNat+m.toNat)))) trivial;obtain⟨H2,n2⟩:=Af.D_ n1 (some d) (v:= .c (.bs id e 0 (i+m))) (by grind [DV.ok,DC.ok]);refine⟨⟨H2,n2⟩,by rw [AS];rfl,fun K hK Fr a w G Q hI hR=>?_⟩;have V_:=hR.arg rfl a2;rw [a3]at V_;simp only [DV.toV,DC.toC,Ab,Ad]at V_;obtain⟨c1,ahY,aiP,o1,ab7,x1,x2,x3,x4,x5⟩:=V_;have hyv:=hR.arg rfl b2;rw [b3]at hyv;simp only [DV.toV,DC.toC,Ab,Ad]at hyv;obtain⟨c1',aB_,aC0,o2,alL,y1,y2,y3,y4,y5⟩:=hyv;rw [x1]at y1;injection y1 with y1;injection y1 with w1 w2 w3;injection w1 with w1;injection w1 with w1;subst w1 w2 w3;obtain⟨v,v1,v2⟩:=hR.ac5 hr;rw [x1]at v1;injection v1 with v1;rcases v2 with ⟨p,_,v2⟩ | ⟨b,cap,cur,q,v3,v4,v5,v6,v7,v8⟩
     ·omega
     rw [q]at v1;injection v1 with k1 k2 k3;injection k1 with k1;injection k1 with k1;subst k1 k2 k3;have ho1:o1=0:=by grind
     have hc1:ab7=aiP:=by grind
     subst ho1 hc1;obtain⟨us,u1,u2⟩:=v8.list;have hul:us.length=l.length*T.sz e:=by rw [<-u1.length,aE (fun y=>AQ e y)]
     have hmv:Aj w G (((l.drop j.toNat).take m.toNat).flatMap (T.enc e)) ((us.drop (j.toNat*T.sz e)).take (m.toNat*T.sz e)):=by rw [<-Hp (fun y=>AQ e y), <-Jy (fun y=>AQ e y)];exact(u1.drop _).take _
     have hjm:j.toNat*T.sz e+m.toNat*T.sz e<=l.length*T.sz e:=by rw [<-add_mul];exact mul_le_mul_right _ (by omega)
     have him:i.toNat*T.sz e+m.toNat*T.sz e<=l.length*T.sz e:=by rw [<-add_mul];exact mul_le_mul_right _ (by omega)
     have hnl:((us.drop (j.toNat*T.sz e)).take (m.toNat*T.sz e)).length =m.toNat*T.sz e:=by rw [List.length_take,List.length_drop];omega
     have hxl:(((l.drop j.toNat).take m.toNat).flatMap (T.enc e)).length =m.toNat*T.sz e:=by rw [hmv.length,hnl]
     have ai6:Ao (((l.drop j.toNat).take m.toNat).flatMap (T.enc e))=true:=AV _ (fun y=>by have:=Dh (T:=T) (.s e) y;simpa only [Ev,V.pure] using this) _;obtain⟨adG,T',s1,s2,s3⟩:=R.agX (m:=l.take i.toNat++((l.drop j.toNat).take m.toNat++l.drop (i.toNat+m.toNat))) hR hw hr v3 (off:=i.toNat*T.sz e) hmv ai6 (by simp;omega) (by
      rw [hxl,flatMap_append,flatMap_append, <-Hp (fun y=>AQ e y) l i.toNat, <-Jy (fun y=>AQ e y) l (i.toNat+m.toNat),append_assoc,add_mul]) (by grind)
     rw [v4]at s1;injection s1 with s1;injection s1 with s1 s1' _;subst s1 s1';have ar4: ∀ jj u',((us.drop (j.toNat*T.sz e)).take (m.toNat*T.sz e))[jj]? =some u'->w.cell? ((⟨c1,o2,none⟩:Addr).add jj)=some u':=by
      intro jj u' hj;have hlt:jj<m.toNat*T.sz e:=by grind
      have hm0:0<m.toNat:=by grind
      have ho2:o2=j.toNat*T.sz e:=y5 (by omega);rw [List.getElem?_take,if_pos hlt,List.getElem?_drop]at hj;have:=u2 _ _ hj;simp_all [Addr.add_mid]
     have aqF:=run_append_room (P:=P) w t o.type e inf hu hi1 c1 i.toNat ab7 cur v4 ⟨c1,o2,none⟩ m.toNat alL ((us.drop (j.toNat*T.sz e)).take (m.toNat*T.sz e)) (by grind) ar4 (Aj.one hmv) (by omega) (by grind);rw [hsz]at aqF;have ea:c.args= #[x,y]:=by grind
     have et:c.argTypes= #[t,t]:=by grind
     generalize w.setRow c1 _=w1 at aqF s3;have q_:(execOp a.eval o).run P w= .ok (.value (.slice (some ⟨c1,0,none⟩) (i.toNat+m.toNat) ab7)) w1:=by simp_all [execOp,resolve,invoke,builtin]
     refine AJ q_ ⟨_,G,hK,?_⟩;rw [hd,Af.h_];refine s3.put ?_;simp only [DV.toV,DC.toC,Ab,Ad];exact⟨c1,l.length,ab7,0,ab7,x1,by rw [show (i+m).toNat =i.toNat+m.toNat by omega],by omega,by simp,fun _=>by simp⟩
    ·exact Yl.no
   ·exact Yl.no
  ·exact Yl.no
 ·exact Yl.no
end Go.PL
set_option linter.all false
namespace Go.PL
open Go Go.RowKit
variable {T:Bo}
def dtr (d:Nat) (st:Af T):M (Af T):=match st.get d with
 | .c (.bs id E0 o n)=>match DG st id with
   | some ⟨E,l⟩=>Tf (Nat.beq E0 E) (.opt (k_ (o=0/\n<=(l.length:Nat)/\0<l.length)) fun _=>match st.new id (.row E (l.take n.toNat))with
     | some s=> .ret (s.put (some d) (.c (.c (.e_ id))))
     | none=> .no)
   | none=> .no
 | _=> .no
theorem Afk {H:As T} {st:Af T} (hw:AH H st) {d:Nat}:Yl (dtr d st) (fun an=>(∃ H',Nx H st H' an)/\an.pre=st.pre/\Wk st.toSt an.toSt):=by
 unfold dtr;split
 ·rename_i id E0 o n hs;split
  ·rename_i E l hr;refine Yl.Tf fun hg=>Yl.opt fun u hn=>?_;have hg:=eq_of_beq_eq_true hg;subst hg;have hn:=Cm hn;have hok:=Af.ag5 hw d;rw [hs]at hok;simp only [DV.ok,DC.ok]at hok;split
   ·rename_i s aas;refine Yl.ret ?_;obtain⟨⟨H1,n1⟩,h2,h3⟩:=Af.acv hw (x:= .row E0 (l.take n.toNat)) trivial aas;obtain⟨H2,n2⟩:=Af.D_ n1 (some d) (v:= .c (.c (.e_ id))) (by simp only [DV.ok,DC.ok]);refine⟨⟨H2,n2⟩,by rw [AS];exact h3,fun F a w G hR=>?_⟩;have hsl:=hR.v_ d;have hge:=st.aa_ d;rw [hs]at hge;have hsl:Ab w G (st.toSt.get d) (a.tmps.getD d Go.undef):=hsl;rw [hge]at hsl;simp only [DV.toV,DC.toC,Ab,Ad]at hsl;obtain⟨b1,ahY,aiP,o1,ab7,x1,x2,x3,x4,x5⟩:=hsl;obtain⟨v,v1,v2⟩:=hR.ac5 hr;rw [x1]at v1;injection v1 with v1;rcases v2 with ⟨p,_,v2⟩ | ⟨b,cap,cur,q,v3,v4,v5,v6,v7,v8⟩
    ·omega
    rw [q]at v1;injection v1 with k1 k2 k3;injection k1 with k1;injection k1 with k1;subst k1 k2 k3;have ho1:o1=0:=by grind
    have hc1:ab7=aiP:=by grind
    subst ho1 hc1;have ai6:Ao ((l.take n.toNat).flatMap (T.enc E0))=true:=AV _ (fun y=>by have:=Dh (T:=T) (.s E0) y;grind [Ev,V.pure]) _;have hlt:b1<w.heap.size:=(by grind);have aiA:=hR.set ⟨id,some (E0,T.sz E0,(l.take n.toNat).length),(l.take n.toNat).flatMap (T.enc E0),true⟩ (some b1) (some (a.tmps.getD d Go.undef)) ⟨rfl,rfl,rfl⟩ (le_refl _) (fun _ _ _=>rfl) (fun _ _ _=>rfl) (fun b' hb'=>by
     injection hb' with hb';subst hb';exact⟨.inr ⟨v3,Cg.same rfl⟩,hlt⟩) (fun _=>ai6) (by
     refine JX (Aw.adT _ _) ⟨?_,a.tmps.getD d Go.undef,by simp [B9,Aw.L_], .inr ⟨b1,ab7,cur,?_,by simp [B9,Aw.L_],v4,?_,v6,v7,?_⟩⟩
     ·show ((l.take n.toNat).flatMap (T.enc E0)).length =_;grind [aE,AQ]
     ·grind
     ·grind
     ·show An w (B9 F G id (some b1) (some (a.tmps.getD d Go.undef))) ((l.take n.toNat).flatMap (T.enc E0)) b1 0;have hk:=hR.keeps id (some b1) (some (a.tmps.getD d Go.undef)) (by grind) (fun _ _ _=>rfl) (fun b' hb'=>by injection hb' with hb';subst hb';exact .inr ⟨v3,Cg.same rfl⟩);have:=v8.take (n.toNat*T.sz E0);rw [Hp (fun y=>AQ E0 y)]at this;exact An.mono hk _ _ _ (fun i hi=>absurd (show BP i ((l.take n.toNat).flatMap (T.enc E0))=true from hi) (by rw [AP i _ ai6];simp)) (fun _=>rfl) this)
    have hl:=aiA.less h2;refine⟨B9 F G id (some b1) (some (a.tmps.getD d Go.undef)),?_⟩;rw [Af.h_];exact hl.afV (by simp only [DV.toV,DC.toC,Ab,Ad];exact⟨by simp [B9],by rw [x2];rfl⟩)
   ·exact Yl.no
  ·exact Yl.no
 ·exact Yl.no
def dpn (r:Ah) (st:Af T):Option (Af T):=match DG st r with
 | some ⟨E,l⟩=>some (Bp [(1000003::r, .deep E 0 l none)] (st.E_ (fun i=>match Bf i r with | true=>true | false=>match Bf i (1000003::r)with | true=>true | false=>LM.aeK (1000003::r) i)))
 | none=>none
def ddp (d:Nat) (st:Af T):M (Af T):=match st.get d with
 | .c x=>match Le x with
   | some r=>match dpn r st with
     | some s=> .ret (s.put (some d) (.c (.c (.e_ (1000003::r)))))
     | none=> .no
   | none=> .no
 | _=> .no
theorem aF (E:Nat): ∀ (k:Int) (l:List (T.den E)),0<=k->AC T E 0 k l=l.flatMap (T.enc E)
 | _,[],_=>rfl
 | k,x::l,h=>by rw [AC,if_neg (by omega),aF E (k+1) l (by omega),flatMap_cons]
theorem Ab5 (E:Nat) (x:T.den E):(T.enc E x).all p9=true:=by
 rw [<-T.aa2];have: ∀ (ks:List Kd) (y:DK T.den ks),(BG T.enc ks y).all p9=true:=by
  intro ks;induction ks with
  | nil=>intro _;rfl
  | cons k ks ih=>
    intro y;simp only [BG,all_cons,and_eq_true];exact⟨by cases k<;>rfl,ih y.2⟩
 grind
theorem nL {H:As T} {st s:Af T} (hw:AH H st) {r:Ah} (h:dpn r st=some s):(∃ H',Nx H st H' s)/\s.pre=st.pre/\ ∀ (F:Fr) (a:Act) (w:World) (G:AG),R F st.toSt a w G-> ∃ G',R F s.toSt a w G'/\G'.own (1000003::r)=G.own r:=by
 unfold dpn at h;split at h
 ·rename_i E l hr;injection h with h;subst h;have hp:(fun i=>match Bf i r with | true=>true | false=>match Bf i (1000003::r)with | true=>true | false=>LM.aeK (1000003::r) i)=(fun i=>i==r||(i==1000003::r||DF (1000003::r) i)):=by grind [CT,Li]
  rw [hp];obtain⟨⟨H1,n1⟩,k1,k2,k3,k4,k5⟩:=Af.aci hw (fun i=>i==r||(i==1000003::r||DF (1000003::r) i));obtain⟨H2,n2⟩:=JE (l:=[(1000003::r,DX.deep E 0 l none)]) n1 (fun p hp=>by rcases mem_singleton.1 hp with rfl;trivial) (by simp) (fun p hp e he q=>by grind)
  obtain⟨s1,s2,s3,s4,s5,_⟩:=Ey [(1000003::r,DX.deep E 0 l none)] (st.E_ (fun i=>i==r||(i==1000003::r||DF (1000003::r) i)));refine⟨⟨H2,n2⟩,by grind,fun F a w G hR=>?_⟩;obtain⟨q1,_,e,q2,q3,q4⟩:=BN hr;obtain⟨G',g1,g2⟩:=hR.aoq q1 rfl rfl (by
   grind [Ab5]) (id:=1000003::r) rfl rfl
  refine⟨G',?_,g2⟩;have aid:Cp (st.toSt.b_ (fun i=>i==r||(i==1000003::r||DF (1000003::r) i)) (⟨1000003::r,some (E,T.sz E,l.length),l.flatMap (T.enc E),true⟩::((st.toSt.so.filter (fun d=>d.id != r&&d.id != 1000003::r)).map (Aw.b_ (fun i=>i==r||(i==1000003::r||DF (1000003::r) i))))))
   (Bp [(1000003::r,DX.deep E 0 l none)] (st.E_ (fun i=>i==r||(i==1000003::r||DF (1000003::r) i)))).toSt :=by
   refine Lj ?_ ?_ ?_ (FH n2.ok) ?_
   ·have:(Bp [(1000003::r,DX.deep E 0 l none)] (st.E_ (fun i=>i==r||(i==1000003::r||DF (1000003::r) i)))).toSt.tm =(st.E_ (fun i=>i==r||(i==1000003::r||DF (1000003::r) i))).toSt.tm :=by grind [Af.toSt]
    rw [this];exact k1
   ·have:(Bp [(1000003::r,DX.deep E 0 l none)] (st.E_ (fun i=>i==r||(i==1000003::r||DF (1000003::r) i)))).toSt.gh =(st.E_ (fun i=>i==r||(i==1000003::r||DF (1000003::r) i))).toSt.gh :=by simp only [Af.toSt,s2]
    rw [this];exact k2
   ·intro z hz;rw [s5]at hz;simp only [map_cons,map_nil,List.singleton_append,mem_cons]at hz;simp only [St.b_,mem_cons,mem_map,mem_filter];rcases hz with rfl | hz
    ·left;show (⟨1000003::r,some (E,T.sz E,l.length),AC T E 0 0 l,true⟩:Aw)=_;simp_all [aF]
    grind
   ·show (Bp _ _).pre =st.pre;grind
  exact g1.less aid
 ·cases h
theorem yP {H:As T} {st:Af T} (hw:AH H st) {d:Nat}:Yl (ddp d st) (fun an=>(∃ H',Nx H st H' an)/\an.pre=st.pre/\Wk st.toSt an.toSt):=by
 unfold ddp;split
 ·rename_i x hs;split
  ·rename_i r ho;have:=Es ho;subst this;split
   ·rename_i s hr;obtain⟨⟨H2,n2⟩,p2,k2⟩:=nL hw hr;obtain⟨H3,n3⟩:=Af.D_ n2 (some d) (v:= .c (.c (.e_ (1000003::r)))) (by simp only [DV.ok,DC.ok]);refine Yl.ret ⟨⟨H3,n3⟩,by rw [AS,p2],fun F a w G hR=>?_⟩;have hsl:Ab w G (st.toSt.get d) (a.tmps.getD d Go.undef):=hR.v_ d;rw [st.aa_ d,hs]at hsl;simp only [DV.toV,DC.toC,Ab,Ad]at hsl;obtain⟨G',g1,g2⟩:=k2 F a w G hR;refine⟨G',?_⟩;rw [Af.h_];exact g1.afV (by simp_all [DV.toV,DC.toC,Ab,Ad])
   ·exact Yl.no
  ·exact Yl.no
 ·exact Yl.no
def rA (id:Ah) (E:Nat) (l:List (T.den E)) (c:DC T):DC T:=match Le c with
 | some i=>match Bf i id with
   | true=> .k (.l_ E) l
   | false=>Nf (fun i=>match Bf i id with | true=>true | false=>LM.aeK id i) c
 | none=>Nf (fun i=>match Bf i id with | true=>true | false=>LM.aeK id i) c
def aG (id:Ah) (E:Nat) (l:List (T.den E)):DV T->DV T
 | .c x=> .c (rA id E l x)
 | .agg cs=> .agg (cs.map (rA id E l))
 | _=> .u
def rB (id:Ah) (E:Nat) (l:List (T.den E)):DX T->DX T
 | .box cs=> .box (cs.map (rA id E l))
 | x=>x
def pFT (id i:Ah):Bool:=match Bf i id with
 | true=>true
 | false=>LM.aeK id i
theorem yQ (id:Ah):pFT id=pF id:=by grind [pFT,pF,CT,Li]
def Af.ass (st:Af T) (id:Ah):Option (Af T):=match Fh id with
 | false=>none
 | true=>match Kh st id with
   | some ⟨E,(_,l,none)⟩=>some (let s:=st.aeo (DV.f_ (pFT id)) (aG id E l) (DX.f_ (pFT id)) (rB id E l);{s with so:=s.so.filter fun e=> !(Bf e.id id)})
   | _=>none
theorem aH (id:Ah) (E:Nat) (l:List (T.den E)) (c:DC T):(rA id E l c).toC =U0 id l.length (l.flatMap (T.enc E)) c.toC:=by
 have hp:(fun i=>match Bf i id with | true=>true | false=>LM.aeK id i)=pF id:=yQ id;unfold rA;rw [hp];split
 ·rename_i i ho;have:=Es ho;grind [AN,DC.toC,Bm,tD,Pb,Yw]
 grind [Pb,Yw,Na]
theorem ud {id:Ah} {E:Nat} {l:List (T.den E)} {c:DC T} (h:c.ok):(rA id E l c).ok :=by grind [rA,DC.ok,aw]
theorem YC {id:Ah} {n:Nat} {ds:List C}: ∀ {l:List C},CJ (pF id) l=false->l.map (U0 id n ds)=l
 | [],_=>rfl
 | c::l,h=>by simp only [CJ,Bool.or_eq_false_iff]at h;rw [map_cons,YC h.2,Yw,Cr,if_neg (by simp [h.1])];grind [C.f_,pF]
theorem Ab6 {id:Ah} {n:Nat} {ds:List C} {v:V} (h:v.f_ (pF id)=false):QC id n ds v=v:=by
 cases v with
 | c x=>
   have:=YC (n:=n) (ds:=ds) (l:=[x]) (by simpa [CJ,V.f_] using h);grind [QC]
 | agg cs=>grind [QC,YC,V.f_]
 | tup vs=>exact Qb h
 | g b x=>exact Qb h
 | undef=>exact Qb h
theorem jT (id:Ah) (l:List (DE T)):(l.filter fun e=> !(Bf e.id id)).map DE.toE=(l.map DE.toE).filter (fun d=>d.id != id):=aho id l
theorem wA {H:As T} {st an:Af T} {id:Ah} (h:AH H st) (hk:st.ass id=some an):(∃ H',Nx H st H' an)/\Wk st.toSt an.toSt/\an.pre=st.pre:=by
 unfold Af.ass at hk;split at hk
 ·cases hk
 ·rename_i hd;split at hk
  ·rename_i E n l hr;injection hk with hk;subst hk;rw [yQ];obtain⟨H',hN⟩:=Af.aeI (p:=DV.f_ (pF id)) (f:=aG id E l) (q:=DX.f_ (pF id)) (g:=rB id E l) h (fun {H n v} hv=>by
    cases v<;>grind [aG,DV.ok,ud,SO]) (fun {x} hx=>by
    cases x<;>grind [rB,DX.ok,SO,ud])
   refine⟨⟨H',hN.ext,hN.le,Ep hN.ok _⟩,fun F a w G hR=>?_,rfl⟩;obtain⟨hmk,_,e,e1,e2,e3⟩:=B3 hr;have hE:e.toE=⟨id,some (E,T.sz E,l.length),AC T E n 0 l,true⟩:=by unfold DE.toE;rw [e3,e2];rfl
   have hL:st.toSt.IN id=some e.toE:=hR.I_ (mem_map.2 ⟨e,e1,rfl⟩) (by rw [hE]) hd;obtain⟨G',g⟩:=hR.apX hL (by rw [hE]) (cells:=l.flatMap (T.enc E)) (by grind [RI]);refine⟨G',g.less ?_⟩;have f1: ∀ v:DV T,v.f_ (pF id)=true->(aG id E l v).toV = .undef \/(aG id E l v).toV =QC id l.length (l.flatMap (T.enc E)) v.toV:=fun v _=>by
    cases v with
    | c x=>grind [aG,DV.toV,QC,aH]
    | agg cs=>
      right;simp only [aG,DV.toV,QC,CK,map_map];grind [map_congr_left,aH]
    | _=>grind [aG,DV.toV]
   have f2: ∀ v:DV T,v.f_ (pF id)=false->QC id l.length (l.flatMap (T.enc E)) v.toV=v.toV:=(by grind [Ab6,DV.agB]);have sl: ∀ (m n:Nat) (tm:Tm T),JB ((AD m tm).map (QC id l.length (l.flatMap (T.enc E)))) (AD m (QD (DV.f_ (pF id)) (aG id E l) n tm)):=fun m n tm=>by unfold AD;rw [map_map];refine JB.map fun i _=>?_;simp only [Function.comp,M7 (p:=DV.f_ (pF id)) (f:=aG id E l) (by simp [DV.f_])];grind
   have gl: ∀ (g:List (Nat×Tm T)) (n:Nat),JB ((g.flatMap fun f=>AD f.1 f.2).map (QC id l.length (l.flatMap (T.enc E)))) ((Rt (DV.f_ (pF id)) (aG id E l) n g).flatMap fun f=>AD f.1 f.2):=by
    intro g;induction g with
    | nil=>intro _;trivial
    | cons x r ih=>
      intro n;obtain⟨m,tm⟩:=x;simp only [Rt,flatMap_cons,map_append];exact(sl m n tm).append (ih _)
   refine Lj (sl _ _ _) (gl _ _) ?_ (FH (Ep hN.ok _)) rfl;intro z hz;have hz:z∈((Ru (DX.f_ (pF id)) (rB id E l) (st.nx+st.tm.length+N8 st.gh) st.so).filter fun e=> !(Bf e.id id)).map DE.toE:=hz;have hF: ∀ x∈st.so,(DX.f_ (pF id) x.x=true-> ∀ t,(⟨x.id,t,rB id E l x.x⟩:DE T).toE =Aw.frD id l.length (l.flatMap (T.enc E)) x.toE)/\(DX.f_ (pF id) x.x=false->Aw.frD id l.length (l.flatMap (T.enc E)) x.toE=x.toE):=by
    intro x _;have base: ∀ t,(⟨x.id,t,rB id E l x.x⟩:DE T).toE =Aw.frD id l.length (l.flatMap (T.enc E)) x.toE:=fun t=>by
     unfold DE.toE;cases hxx:x.x with
     | box cs=>
       simp only [rB,Aw.frD,CK,map_map,Aw.mk.injEq,and_true,true_and];grind [map_congr_left,aH]
     | row E l=>rfl
     | deep E n l h=>rfl
    grind [DE.toE,DX.f_,Gn,Aw.frD,YC]
   rw [jT,O0 (F:=Aw.frD id l.length (l.flatMap (T.enc E))) _ hF]at hz;obtain⟨h1,h2⟩:=mem_filter.1 hz;obtain⟨d,h3,rfl⟩:=mem_map.1 h1;refine mem_map.2 ⟨d,mem_filter.2 ⟨h3,?_⟩,rfl⟩;have:(Aw.frD id l.length (l.flatMap (T.enc E)) d).id =d.id:=by obtain⟨i,r,cs,_ | _⟩:=d<;>rfl
   grind
  ·cases hk
end Go.PL
namespace Go.PL
open Go Go.RowKit
variable {T:Bo}
theorem RL: ∀ {vs:List Value} {l:List C},D5 vs=some l-> ∀ v∈vs,(CW v).isSome =true
 | [],_,_,v,hv=>by cases hv
 | x::vs,l,h,v,hv=>by
   unfold D5 at h;split at h
   ·rename_i c cs h1 h2;rcases mem_cons.1 hv with rfl | hv
    ·rw [h1];rfl
    ·exact RL h2 v hv
   ·cases h
theorem nM {P:Program} {st:St} {w:World} {G:AG} {d:Nat} {t:TypeId} {l c:V} {u v:Value} (hx:Ab w G l u) (hy:Ab w G c v) (hs:(K7 P st d t l c).1) {r:Value} {w':World} (hr:(Instr.makeSlice t u v).run P w= .ok r w'):
 ∃ len cap,r= .slice (some ⟨w.heap.size,0,none⟩) len cap/\ ∀ k v,w'.cell? ⟨w.heap.size,k,none⟩=some v->(CW v).isSome =true:=by
 unfold K7 at hs;split at hs
 ·rename_i k1 l k2 c E n by' abq;split at hs
  ·rename_i z hz;obtain⟨h0,h1,h2,h3,h4,h5⟩:=hs;obtain⟨i,zv,hu,hi,hzv,hsz,hby,hzs⟩:=DD abq;obtain⟨i',zv',hi',acV,hc⟩:=Hj hz;rw [hi]at hi';injection hi' with hi';subst hi';rw [hzv]at acV;injection acV with acV;subst acV;have hM:maxLen=9223372036854775807:=rfl;simp only [Ab,Ad]at hx hy;subst hx hy;have q_:=run_make (P:=P) w t E i zv hu hi hzv k1 k2 l c h0 h1 (by rw [hby,Int.mul_comm];omega) (by omega);rw [q_]at hr;injection hr with hr1 hr2;subst hr1 hr2;refine⟨_,_,rfl,fun k v hv=>?_⟩;have af5:=RL hc;have abH:(madeCells zv.cells (c.toNat*i.size))[k]? =some v:=by simp_all
   have hk:k<c.toNat*i.size:=by grind [madeCells]
   have hz0:0<zv.cells.size:=by grind
   grind [madeCells,Nat.mod_lt]
  grind
 grind
theorem Afl {w:World} {G:AG} {n:Nat} {cs:List C} {v:Value} (h:Ad w G (.sl n cs) v) (hc:(CW v).isSome =true):v= .slice none 0 0/\n=0/\cs=[]:=by simp only [Ad]at h;obtain⟨_,a,cap,rfl,h1,_,h3,_⟩:=h;unfold CW at hc;grind
theorem aI: ∀ {ks:List Kd} {y:DK T.den ks} {p:Nat} {c:C},(BR T ks y)[p]? =some c->(∃ F n cs,c= .isl F (T.sz F) n cs/\(BG T.enc ks y)[p]? =some (.sl n cs))\/((BG T.enc ks y)[p]? =some c/\p9 c=true)
 | [],_,_,_,h=>by simp [BR]at h
 | k::ks,y,0,c,h=>by
   simp only [BR,getElem?_cons_zero,injEq]at h;simp only [BG,getElem?_cons_zero,injEq];cases k with
   | l_ F=>exact .inl ⟨F,_,_,h.symm,rfl⟩
   | int _=>exact .inr ⟨h,by rw [<-h];rfl⟩
   | bool=>exact .inr ⟨h,by rw [<-h];rfl⟩
   | str=>exact .inr ⟨h,by rw [<-h];rfl⟩
 | k::ks,y,p+1,c,h=>by simp only [BR,List.getElem?_cons_succ]at h;simp only [BG,List.getElem?_cons_succ];exact aI h
theorem aJ {E:Nat} {n:Int}: ∀ {l:List (T.den E)} {k:Int} {j:Nat} {c:C},k+l.length<=n->(AC T E n k l)[j]? =some c->(∃ F m cs,c= .isl F (T.sz F) m cs/\(l.flatMap (T.enc E))[j]? =some (.sl m cs))\/((l.flatMap (T.enc E))[j]? =some c/\p9 c=true)
 | [],_,_,_,_,h=>by simp [AC]at h
 | x::l,k,j,c,hn,h=>by
   simp only [AC,List.length_cons]at h hn;rw [if_pos (by omega)]at h;have hl:(T.aa4 E x).length =(T.enc E x).length :=by
    unfold Bo.aa4;rw [<-T.aa2];have: ∀ (ks:List Kd) (y:DK T.den ks),(BR T ks y).length =(BG T.enc ks y).length :=by intro ks;induction ks<;>grind [BR,BG]
    grind
   rw [flatMap_cons];by_cases hj:j<(T.aa4 E x).length
   ·rw [List.getElem?_append_left hj]at h;rw [List.getElem?_append_left (by omega), <-T.aa2];exact aI h
   ·rw [getElem?_append_right (by omega)]at h;rw [getElem?_append_right (by omega), <-hl];exact aJ (by omega) h
theorem SW {E:Nat} {n:Int}: ∀ (l:List (T.den E)) (k:Int),Ao (AC T E n k l)=true
 | [],_=>rfl
 | x::l,k=>by
   rw [AC,BT,SW l (k+1),Bool.and_true];split
   ·exact wy E x
   ·have:=Dh (T:=T) (.s E) x;grind [Ev,V.pure]
def Afm:Int->Bool
 | .ofNat 0=>true
 | _=>false
theorem wB {n:Int} (h:Afm n=true):n=0:=by grind [Afm]
def Ab7 (P:Program) (o:Oper) (st:Af T) (d:Nat):M (Af T):= .M_ (vV P st o) fun st1=> .M_ (ddp d st1) fun st2=>match st2.get d with
    | .c (.c (.e_ id))=>match Kh st2 id with
      | some ⟨E,(nn,l,none)⟩=>Tf (Fh id&&(Nat.blt d st2.m&&Afm nn)) (.opt (k_ (0<l.length)) fun _=> .ret ((st2.E_ (LM.aeK id)).abn id (.deep E (List.length l:Nat) l none)))
      | _=> .no
    | _=> .no
def rC:DC T->Bool
 | .k (.l_ _) _=>false
 | .k _ _=>true
 | .c .s_ =>true
 | _=>false
def Ab8:List (DC T)->Bool
 | []=>true
 | c::r=>rC c&&Ab8 r
def Vt:List (Nat×DV T)->Bool
 | []=>true
 | (_, .agg cs)::r=>Ab8 cs&&Vt r
 | _=>false
def dmk (P:Program) (o:Oper) (st:Af T):M (Af T):=match o.op,o.dst with
 | .makeSlice _ _ _,some d=>Ab7 P o st d
 | .buildSlice _ _ ps,some d=>match Hs st [] ps.toList with
   | some vs=>Tf (Vt vs) (Ab7 P o st d)
   | none=> .no
 | _,_=> .no
theorem aK {place:Nat->Option (Nat×Nat)}: ∀ {qs:List (Nat×Value)} {arr out:Array Value},Instr.fill place arr qs=some out->(∀ v∈arr.toList,(CW v).isSome =true)->(∀ q∈qs, ∀ v∈q.2.cells.toList,(CW v).isSome =true)-> ∀ v∈out.toList,(CW v).isSome =true
 | [],arr,out,h,ha,_=>by simp only [Instr.fill,injEq]at h;subst h;exact ha
 | (i,v)::r,arr,out,h,ha,hq=>by
   simp only [Instr.fill]at h;split at h
   ·cases h
   ·rename_i off size hp;split at h
    ·cases h
    ·rename_i hb;refine aK h (fun u hu=>?_) (fun q hq'=>hq q (by simp [hq']));have e:=fv v.cells.toList off 0 arr (by simp at hb ⊢;omega);rw [<-Array.foldl_toList,Array.toList_zipIdx,e]at hu;rcases mem_append.1 hu with hu | hu
     ·rcases mem_append.1 hu with hu | hu
      ·exact ha u (List.mem_of_mem_take hu)
      ·exact hq (i,v) (by simp) u hu
     ·exact ha u (List.mem_of_mem_drop hu)
theorem rD {w:World} {G:AG} {c:DC T} {v:Value} (h:rC c=true) (hr:Ad w G c.toC v):(CW v).isSome =true:=by
 unfold rC at h;split at h
 ·cases h
 ·rename_i kd x _;cases kd<;>simp only [DC.toC,Bm,Ad]at hr<;>first | (subst hr;rfl) | (rename_i Tj;exact(Tj _ _ rfl).elim) | grind
 ·simp only [DC.toC,Ad]at hr;subst hr;rfl
 ·cases h
theorem nN {w:World} {G:AG}: ∀ {cs:List (DC T)} {vs:List Value},Ab8 cs=true->Aj w G (Ar cs) vs-> ∀ v∈vs,(CW v).isSome =true
 | [],[],_,_,v,hv=>by cases hv
 | [],_::_,_,h,_,_=>by simp [Ar,Aj]at h
 | _::_,[],_,h,_,_=>by simp [Ar,Aj]at h
 | c::cs,u::us,hd,h,v,hv=>by
   simp only [Ab8,and_eq_true]at hd;simp only [Ar,Aj]at h;rcases mem_cons.1 hv with rfl | hv
   ·exact rD hd.1 h.1
   ·exact nN hd.2 h.2 v hv
theorem Xi {w:World} {G:AG}: ∀ {ps:List (Nat×DV T)} {qs:List (Nat×Value)},Vt ps=true->OD w G (nc ps) qs-> ∀ q∈qs, ∀ v∈q.2.cells.toList,(CW v).isSome =true
 | [],[],_,_,q,hq=>by cases hq
 | [],_::_,_,h,_,_=>by simp [nc,OD]at h
 | (i,x)::ps,[],_,h,_,_=>by simp [nc,OD]at h
 | (i,x)::ps,(j,u)::qs,hc,h,q,hq=>by
   simp only [nc,map_cons,OD]at h;cases x with
   | agg cs=>
     simp only [Vt,and_eq_true]at hc;rcases mem_cons.1 hq with rfl | hq
     ·simp only [DV.toV,Ab]at h;obtain⟨_,⟨arr,rfl,h2⟩,_⟩:=h;exact nN hc.1 h2
     ·exact Xi (ps:=ps) hc.2 h.2.2 q hq
   | _=>simp [Vt]at hc
def MkC (P:Program) (st:St) (o:Oper):Prop:= ∀ (F:Fr) (a:Act) (w:World) (G:AG),R F st a w G->(ef P st o).1-> ∃ len cap w0,(execOp a.eval o).run P w= .ok (.value (.slice (some ⟨w.heap.size,0,none⟩) len cap)) w0/\ ∀ k v,w0.cell? ⟨w.heap.size,k,none⟩=some v->(CW v).isSome =true
theorem yR {P:Program} {st:St} {o:Oper} {t:TypeId} {lo co:Operand} {d:Nat} (hop:o.op= .makeSlice t lo co) (hd:o.dst=some d):MkC P st o:=by
 intro F a w G hR e1;have amc:(K7 P st d t (st.arg true lo).2 (st.arg true co).2).1/\(st.arg true lo).1/\(st.arg true co).1:=by grind [ef]
 have hx:=hR.arg rfl amc.2.1;have hy:=hR.arg rfl amc.2.2;obtain⟨r0,w0,G0,m1,_⟩:=WF (d:=d) hR hx hy amc.1;obtain⟨len,cap,rfl,hcells⟩:=nM hx hy amc.1 m1;exact⟨len,cap,w0,by simp [execOp,hop,m1],hcells⟩
theorem wC {H:As T} {P:Program} {st:Af T} (hw:AH H st) {o:Oper} {t:TypeId} {len:Nat} {ps:Array (Nat×Operand)} {d:Nat} {vs:List (Nat×DV T)} (hop:o.op= .buildSlice t len ps) (hd:o.dst=some d) (hp:Hs st [] ps.toList=some vs) (hc:Vt vs=true):MkC P st.toSt o:=by
 intro F a w G hR e1;have hs:(Bh P st.toSt d t len ps.toList).1:=by obtain⟨dst,op,ty,pos,aft,gd⟩:=o;simp only at hop hd;subst hop hd;exact e1
 unfold Bh at hs;split at hs
 ·rename_i E n by' abq;split at hs
  ·rename_i z hz;split at hs
   ·rename_i cs hf;obtain⟨h1,h2,h3,h4⟩:=hs;obtain⟨i,zv,hu,hi,hzv,hsz,hby,hzs⟩:=DD abq;obtain⟨i',zv',hi',acV,hcz⟩:=Hj hz;rw [hi]at hi';injection hi' with hi';subst hi';rw [hzv]at acV;injection acV with acV;subst acV;have hzr:=Md (FN (w:=w) (G:=G) hcz) (by omega) len;obtain⟨abh,q1,q2⟩:=J0 hf (P1 (hR.parts rfl h1)) hzr;have q1':Instr.fill (fun i=>some (i*n,n)) ((Array.range (len*n)).map (zv.cells[· % zv.cells.size]!)) (ps.map fun(i,x)=>(i,a.eval x)).toList =some abh:=by simp_all
    have hrp:OD w G (nc vs) (ps.map fun(i,x)=>(i,a.eval x)).toList :=by obtain⟨_,_,p3⟩:=Gb (key:=[]) hw (fun _ hl=>by cases hl) rfl hp;change (st.toSt.parts true ps.toList).2=nc vs at p3;have:=hR.parts rfl h1;rw [p3]at this;rw [Array.toList_map];exact this
    have hz0:0<zv.cells.size:=by grind
    have af5:=RL hcz;have hconst:=aK q1' (fun v hv=>by simp only [Array.toList_map,Array.toList_range,mem_map,List.mem_range]at hv;obtain⟨k,_,rfl⟩:=hv;have hlt:k % zv.cells.size<zv.cells.size:=Nat.mod_lt _ hz0;rw [getElem!_pos zv.cells _ hlt];exact af5 _ (by simp)) (Xi hc hrp)
    have q_:=acN (P:=P) (w:=w) (ps:=ps.map fun(i,x)=>(i,a.eval x)) hu hi hzv hsz h3 h4 q1';refine⟨len,len,w.alloc (.cells abh E),by simp [execOp,hop,q_],fun k v hv=>?_⟩;have abH:abh[k]? =some v:=by simp_all
    exact hconst v (by grind)
   ·exact hs.elim
  ·exact hs.elim
 ·exact hs.elim
theorem ue {H:As T} {P:Program} {I:World->Prop} {st:Af T} (hw:AH H st) {o:Oper} {d:Nat} (hd:o.dst=some d) (hmk:MkC P st.toSt o):Yl (Ab7 P o st d) (fun an=>(∃ H',Nx H st H' an)/\an.pre=st.pre/\ ∀ K:St->Prop,K an.toSt->DJ P I o st.toSt K):=by
 unfold Ab7
 ·refine Yl.M_ (Yz hw o) fun st1 h1=>?_;obtain⟨⟨H1,n1⟩,e1,e2,p1⟩:=h1;refine Yl.M_ (yP n1.ok) fun st2 h2=>?_;obtain⟨⟨H2,n2⟩,p2,w2⟩:=h2;split
  ·rename_i id hg;split
   ·rename_i E nn l hdr;refine Yl.Tf fun hb=>Yl.opt fun u hu=>Yl.ret ?_;simp only [and_eq_true,Nat.blt_eq]at hb;obtain⟨hb1,hb2,hb3⟩:=hb;have hnn:=wB hb3;subst hnn;have hlen:0<l.length:=Cm hu;have hp:(LM.aeK id)=DF id:=funext fun i=>Li id i;rw [hp];obtain⟨⟨H3,n3⟩,k1,k2,k3,k4,k5⟩:=Af.aci n2.ok (DF id);obtain⟨H4,n4⟩:=Af.abk n3.ok id (x:= .deep E (List.length l:Nat) l none) trivial;refine⟨⟨H4,((n1.trans n2).trans n3).trans n4⟩,by show (st2.E_ (DF id)).pre =st.pre;grind,fun K hK F a w G Q hI hR=>?_⟩;obtain⟨len,cap,w0,q_,hcells⟩:=hmk F a w G hR e1;obtain⟨nx,w',G1,q1,q2⟩:=(Sx hR e1).out;rw [q_]at q1;injection q1 with q1 q1';subst q1 q1';have hR1:R F st1.toSt (a.put (some d) (.slice (some ⟨w.heap.size,0,none⟩) len cap)) w0 G1:=by
     rcases q2 with ⟨v,e,q⟩ | ⟨e,_⟩
     ·injection e with e;subst e;rw [hd]at q;exact q.less e2
     ·cases e
    obtain⟨G2,hR2⟩:=w2 _ _ _ _ hR1;have hsl:Ab w0 G2 (st2.toSt.get d) ((a.put (some d) (.slice (some ⟨w.heap.size,0,none⟩) len cap)).tmps.getD d Go.undef):=hR2.v_ d;rw [st2.aa_ d,hg]at hsl;have hsz:d<a.tmps.size:=by have:=hR2.size;simp only [Act.put,Array.size_setIfInBounds]at this;rw [this];show d<(AD st2.m st2.tm).length;rw [BB];exact hb2
    have hpv:(a.put (some d) (.slice (some ⟨w.heap.size,0,none⟩) len cap)).tmps.getD d Go.undef= .slice (some ⟨w.heap.size,0,none⟩) len cap:=by simp_all [Act.put]
    rw [hpv]at hsl;simp only [DV.toV,DC.toC,Ab,Ad]at hsl;obtain⟨aGV,hlr,e,he1,he2,he3⟩:=B3 hdr;have hE:e.toE=⟨id,some (E,T.sz E,l.length),l.flatMap (T.enc E),true⟩:=by simp_all [DE.toE,Bq,aF]
    have hm:e.toE∈st2.toSt.so:=mem_map.2 ⟨e,he1,rfl⟩;have hL:st2.toSt.IN id=some e.toE:=hR2.I_ hm (by rw [hE]) hb1;have abD:G2.m_ id=some w.heap.size:=by have hS:=hR2.store _ hm;grind [Bc]
    obtain⟨E1,n1',aj4,v1,ab7,aiL,g1,g2,g3,g4,g5,g6,g7,g8,g9⟩:=hR2.aed hL abD;rw [hE]at g9;obtain⟨us,r1,r2⟩:=g9.list;obtain⟨G3,hR3,aam⟩:=hR2.amz hL (cs':=AC T E (List.length l:Nat) 0 l) (by grind [Ki]) (SW l 0) abD (fun k c hk=>by
     rw [hE];rcases aJ (by omega) hk with ⟨F1,m,cs,z1,z2⟩ | z
     ·right;obtain⟨v,y1,y2⟩:=jA r1 z2;have abH:=r2 k v y1;rw [zero_add]at abH;grind [Afl]
     grind)
    have aid:Cp (st2.toSt.b_ (DF id) ((st2.toSt.so.map (Aw.b_ (DF id))).map (Tl id e.toE.row (AC T E (List.length l:Nat) 0 l)))) ((st2.E_ (DF id)).abn id (.deep E (List.length l:Nat) l none)).toSt :=by
     refine Lj ?_ ?_ ?_ (FH n4.ok) ?_
     ·exact k1
     ·exact k2
     ·intro z hz;simp only [St.b_,mem_map];obtain⟨e3,h1,rfl⟩:=mem_map.1 hz;rcases acd n3.ok.nd h1 with ⟨h1,h2⟩ | h1
      ·obtain⟨d3,h3,h4,h5⟩:=gM n2.ok (mem_map.2 ⟨e3,h1,rfl⟩);have azr:d3.id ≠ id:=by grind [Aw.t_,DE.toE_id]
       refine⟨d3.b_ (DF id),⟨d3,h3,rfl⟩,?_⟩;grind [Eb,Aw.t_]
      ·subst h1;refine⟨e.toE.b_ (DF id),⟨e.toE,hm,rfl⟩,?_⟩;rw [Ec (by rw [Aw.t_,hE]),Aw.t_,Aw.agF,hE];rfl
     ·show (st2.E_ (DF id)).pre =st2.pre;exact k4
    unfold Oper.wp;rw [q_];refine⟨_,G3,hK,?_⟩;rw [hd];exact hR3.less aid
   ·exact Yl.no
  ·exact Yl.no
theorem Afn {H:As T} {P:Program} {I:World->Prop} {st:Af T} (hw:AH H st) {o:Oper}:Yl (dmk P o st) (fun an=>(∃ H',Nx H st H' an)/\an.pre=st.pre/\ ∀ K:St->Prop,K an.toSt->DJ P I o st.toSt K):=by
 unfold dmk;split
 ·rename_i hop hd;exact ue hw hd (yR hop hd)
 ·rename_i hop hd;split
  ·rename_i hp;exact Yl.Tf fun hc=>ue hw hd (wC hw hop hd hp hc)
  ·exact Yl.no
 ·exact Yl.no
end Go.PL
namespace Go.PL
open Go Go.RowKit
variable {T:Bo}
def Ks (c:DC T):(ks:List Kd)->DK T.den ks->Nat->Option (DK T.den ks)
 | .int k::_,y,0=>match Ij false (.int k) c with
   | some x=>some (x,y.2)
   | none=>none
 | .bool ::_,y,0=>match Ij false .bool c with
   | some x=>some (x,y.2)
   | none=>none
 | .str ::_,y,0=>match Ij false .str c with
   | some x=>some (x,y.2)
   | none=>none
 | _::ks,y,p+1=>match Ks c ks y.2 p with
   | some z=>some (y.1,z)
   | none=>none
 | _,_,_=>none
theorem Pd {c:DC T}: ∀ {ks:List Kd} {y z:DK T.den ks} {p:Nat},Ks c ks y p=some z->
 BR T ks z=(BR T ks y).set p c.toC/\BG T.enc ks z=(BG T.enc ks y).set p c.toC/\p<ks.length/\c.toC.pure=true/\p9 c.toC=true
 | [],_,_,_,h=>by simp [Ks]at h
 | .l_ F'::ks,y,z,0,h=>by simp [Ks]at h
 | .int k::ks,y,z,0,h=>by
   simp only [Ks]at h;split at h
   ·rename_i x hx;injection h with h;subst h;have:=(CB hx).2 rfl;rw [this];exact⟨rfl,rfl,by simp,rfl,rfl⟩
   ·cases h
 | .bool ::ks,y,z,0,h=>by
   simp only [Ks]at h;split at h
   ·rename_i x hx;injection h with h;subst h;have:=(CB hx).2 rfl;rw [this];exact⟨rfl,rfl,by simp,rfl,rfl⟩
   ·cases h
 | .str ::ks,y,z,0,h=>by
   simp only [Ks]at h;split at h
   ·rename_i x hx;injection h with h;subst h;have:=(CB hx).2 rfl;rw [this];exact⟨rfl,rfl,by simp,rfl,rfl⟩
   ·cases h
 | k::ks,y,z,p+1,h=>by
   have h:(match Ks c ks y.2 p with | some z=>some ((y.1,z):P6 T.den k×DK T.den ks) | none=>none)=some z:=by cases k<;>simpa only [Ks] using h
   split at h
   ·rename_i z' hz;injection h with h;subst h;obtain⟨a,b,d,e,f⟩:=Pd hz;exact⟨by simp only [BR,set_cons_succ];rw [a],by simp only [BG,set_cons_succ];rw [b],by simp;omega,e,f⟩
   ·cases h
theorem Xj {E:Nat} {n:Int} {c:C} {p:Nat} {x':T.den E}: ∀ {l:List (T.den E)} {k:Int} {i:Nat} {x:T.den E},l[i]? =some x->T.aa4 E x'=(T.aa4 E x).set p c->T.enc E x'=(T.enc E x).set p c->p<T.sz E->(AC T E n k l).set (i*T.sz E+p) c=AC T E n k (l.set i x')
 | [],_,_,_,h,_,_,_=>by simp at h
 | y::l,k,0,x,h,hx,hx2,hp=>by
   simp only [getElem?_cons_zero,injEq]at h;subst h;rw [List.set_cons_zero,AC,AC,Nat.zero_mul,zero_add];by_cases hk:k<n
   all_goals simp_all [Eo,if_neg,AQ]
 | y::l,k,i+1,x,h,hx,hx2,hp=>by
   have hl:(if k<n then T.aa4 E y else T.enc E y).length =T.sz E:=by grind [Eo,AQ]
   rw [set_cons_succ,AC,AC,List.set_append_right _ _ (by rw [hl,add_mul,one_mul];omega),hl,show (i+1)*T.sz E+p - T.sz E=i*T.sz E+p by rw [add_mul,one_mul];omega];rw [Xj (by simpa using h) hx hx2 hp]
def Df (P:Program) (o:Oper) (st:Af T):M (Af T):=match o.op with
 | .store t x y=>match o.dst,st.arg [] x,st.arg [] y,K0 P t with
   | none,some (.c (.rp id N i off)),some (.c c),some (false,1)=>match Kh st id with
     | some ⟨E,(nn,l,none)⟩=>Tf (Fh id&&Nat.beq N (T.sz E)) (.opt (idx l i) fun x=>
      match Ks c (T.ks E) (T.un E x) off with
      | some z=> .ret (st.abn id (.deep E nn (l.set i.toNat (T.bd E z)) none))
      | none=> .no)
     | _=> .no
   | _,_,_,_=> .no
 | _=> .no
theorem Afo {H:As T} {P:Program} {I:World->Prop} {st:Af T} (hw:AH H st) {o:Oper}:Yl (Df P o st) (fun an=>(∃ H',Nx H st H' an)/\an.pre=st.pre/\ ∀ K:St->Prop,K an.toSt->DJ P I o st.toSt K):=by
 unfold Df;split
 ·rename_i t x y hop;split
  ·rename_i id N i off c hd hx hy ht;split
   ·rename_i E nn l hdr;refine Yl.Tf fun hg=>Yl.opt fun xx hxx=>?_;simp only [and_eq_true,beq_eq]at hg;obtain⟨g1,g2⟩:=hg;subst g2;split
    ·rename_i z hz;obtain⟨i0,i1,hxi⟩:=Jl hxx;obtain⟨a1,a2,a3⟩:=Ht hw hx;obtain⟨b1,b2,b3⟩:=Ht hw hy;obtain⟨hmk,hlr,e,he1,he2,he3⟩:=B3 hdr;obtain⟨z1,z2,acy,z3,z4⟩:=Pd hz;have hE:e.toE=⟨id,some (E,T.sz E,l.length),AC T E nn 0 l,true⟩:=by unfold DE.toE;rw [he3,he2];rfl
     have akk:T.aa4 E (T.bd E z)=(T.aa4 E xx).set off c.toC:=by rw [Bo.aa4,T.afv,z1];rfl
     have azz:T.enc E (T.bd E z)=(T.enc E xx).set off c.toC:=by rw [<-T.aa2,T.afv,z2,T.aa2]
     have aiA:=Xj (n:=nn) (k:=0) (x':=T.bd E z) (c:=c.toC) (p:=off) hxi akk azz acy;obtain⟨H2,n2⟩:=Af.abk hw id (x:= .deep E nn (l.set i.toNat (T.bd E z)) none) trivial;refine Yl.ret ⟨⟨H2,n2⟩,rfl,fun K hK Fr a w G Q hI hR=>?_⟩;have hm:e.toE∈st.toSt.so:=mem_map.2 ⟨e,he1,rfl⟩;have hL:st.toSt.IN id=some e.toE:=hR.I_ hm (by rw [hE]) g1;have V_:=hR.arg rfl a2;rw [a3]at V_;simp only [DV.toV,DC.toC,Ab,Ad]at V_;obtain⟨b,hb1,hv⟩:=V_;have hyv:=hR.arg rfl b2;rw [b3]at hyv;simp only [DV.toV,Ab]at hyv;have acW:=hyv.one;have hcl:(a.eval y).cells.toList =[a.eval y]:=by cases hq:a.eval y<;>rw [hq]at acW<;>first | rfl | cases acW
     have hc:Aj w G [c.toC] (a.eval y).cells.toList :=by rw [hcl];exact⟨hyv,trivial⟩
     have hlen:e.toE.cs.length=l.length*T.sz E:=by grind [Ki]
     have au3:off<T.sz E:=acy;have hk:i.toNat*T.sz E+off<e.toE.cs.length:=by rw [hlen];have:(i.toNat+1)*T.sz E<=l.length*T.sz E:=mul_le_mul_right _ (by omega);grind
     obtain⟨cur,T',c1,c2,c3⟩:=hR.adg hL hb1 (off:=i.toNat*T.sz E+off) hc (by simp;omega) (by simp [Ao,z3]) (by simp [z4]);have hs:=El (P:=P) ht c1 (by grind) c2 (Aj.one hc);generalize w.setRow b _=w1 at hs c3;have q_:(execOp a.eval o).run P w= .ok .skip w1:=by simp_all [execOp]
     refine FP q_ ?_;rw [hd];refine⟨_,G,hK,c3.less ?_⟩;refine Lj (JB.refl _) (JB.refl _) ?_ (FH n2.ok) rfl;intro u hu;obtain⟨e3,h1,rfl⟩:=mem_map.1 hu;rcases acd hw.nd h1 with ⟨h1,h2⟩ | h1
     ·exact mem_map.2 ⟨e3.toE,mem_map.2 ⟨e3,h1,rfl⟩,(by grind [Eb,DE.toE_id])⟩
     ·subst h1;refine mem_map.2 ⟨e.toE,hm,?_⟩;rw [Ec (by rw [hE])];show _=(⟨id,some (E,T.sz E,(l.set i.toNat (T.bd E z)).length),AC T E nn 0 (l.set i.toNat (T.bd E z)),true⟩:Aw);simp only [hE,length_set];simp_all [List.set_eq_take_append_cons_drop]
    ·exact Yl.no
   ·exact Yl.no
  ·exact Yl.no
 ·exact Yl.no
def dug (ks:List Nat) (st:Af T):Af T:=match st.gh with
 | []=>st
 | (m,tm)::r=>{st with gh:=(m,Hx ks tm)::r}
theorem Afp {H:As T} {st:Af T} (hw:AH H st) (ks:List Nat):(∃ H',Nx H st H' (dug ks st))/\(dug ks st).pre =st.pre/\Wk st.toSt (dug ks st).toSt :=by
 unfold dug;split
 ·exact⟨⟨H,Nx.refl hw⟩,rfl,Wk.less (Cp.refl _)⟩
 ·rename_i m tm r hg;have hn:Nx H st H {st with gh:=(m,Hx ks tm)::r}:=⟨C6.refl _ _,le_refl _,hw.tm,fun f hf=>by
   rcases mem_cons.1 hf with rfl | hf
   ·exact fun s t v hm=>hw.gh (m,tm) (by grind) s t v (Nc hm)
   ·exact hw.gh f (by grind),hw.so,hw.nd⟩
  refine⟨⟨H,hn⟩,rfl,Wk.less (Lj (JB.refl _) ?_ (fun _ h=>h) (FH hn.ok) rfl)⟩;show JB (st.gh.flatMap fun f=>AD f.1 f.2) (((m,Hx ks tm)::r).flatMap fun f=>AD f.1 f.2);rw [hg,flatMap_cons,flatMap_cons];refine JB.append ?_ (JB.refl _);unfold AD;refine JB.map fun i _=>?_;rw [P9];split
  ·grind
  ·exact .inl rfl
end Go.PL
