/- The pure logic: PlYg, Tj, Tk, Tl, Tm, Tn, To, Tt, Tu, Tu2, Tu3, Tu4, Tu5, Tu6, Tu7, Tu8, Tu9. -/
import Derived.Test.YtenjiecnhncfiaaGreatDoorPlPvtoPlYf
import Derived.Test.YtenjiecnhncfiaaGreatDoorPlRtoPlPt
open Option.some (injEq)
open List (mem_map mem_cons map_cons flatMap_cons nil_append mem_singleton cons_append append_assoc all_cons map_map mem_filter set_cons_succ append_nil nodup_cons getElem?_append_right getElem?_cons_zero map_congr_left length_append flatMap_append getElem?_map map_append length_set all_nil map_nil)
open Bool (and_eq_true not_eq_true')
open Nat (eq_of_beq_eq_true beq_eq add_mul le_succ le_refl mul_le_mul_right one_mul zero_add add_zero)
open Option (getD_none getD_some)
open Int (toNat_natCast)
set_option linter.all false
namespace Go.PL
open Go Go.RowKit
theorem R.amy {F:Fr} {st:St} {a:Act} {w w':World} {G:AG} (h:R F st a w G) {id:Ak} {e:Ax} (he:st.look id=some e) {E n len abW:Nat}
 {v v':Value} {xs us:List Value} {cs:List C} (hq:Ap cs=true) (hob:v.ownBlock=G.p_ id) (h2:Al w G cs us)
 (hold:w.ownsRow 0 E n v len xs) (aaF:w'.ownsRow 0 E n v' abW us) (hg:w.grownBy w' v.ownBlock) (hfr:v'.ownBlock=v.ownBlock\/ ∀ b,v'.ownBlock=some b->w.heap.size<=b):
 ∃ G',R F (st.new ⟨id,some (E,n,abW),cs,true⟩) a w' G'/\G'.own id=some v'/\v'.oneCell'=true:=by
 obtain⟨hm,hid⟩:=Bh he;have abn: ∀ b,b<w.heap.size->G.p_ id ≠ some b->w'.heap[b]? =w.heap[b]? :=fun b hb hne=>hg.block b hb (by grind);have hn: ∀ b,v'.ownBlock=some b->w.heap.size<=b\/(G.p_ id=some b/\Cg w w' b):=by
  intro b hb;rcases hfr with q | q
  ·refine .inr ⟨by grind,?_⟩;have hb2:v.ownBlock=some b:=by grind
   intro cur T fz hc;rcases aaF.2 with ⟨r,_⟩ | ⟨g,cap,adr,r,_,r2,_⟩
   ·rw [r]at hb;cases hb
   ·rw [r]at hb;simp only [Value.ownBlock,injEq]at hb;subst hb;rcases hold.2 with ⟨r3,_⟩ | ⟨g3,aud,aua,r3,_,r4,_⟩
    all_goals grind [Value.ownBlock]
  grind
 have hlt: ∀ b,v'.ownBlock=some b->b<w'.heap.size:=fun b hb=>(aaF.lt b hb).2;have acK:v'.oneCell'=true:=by rcases aaF.2 with ⟨q,_⟩ | ⟨g,cap,cur,q,_⟩<;>rw [q]<;>rfl
 refine⟨Cb F G id v'.ownBlock (some v'),?_,by simp [Cb],acK⟩;have hk:=h.keeps id v'.ownBlock (some v') hg.size abn hn;have atC:=HN (row:=some (E,n,abW)) (pu:=true) h hk (fun _=>hq) h2;refine h.set ⟨id,some (E,n,abW),cs,true⟩ v'.ownBlock (some v') ⟨hg.os,hg.tape,hg.output⟩ hg.size abn ?_ (by grind) (fun _=>hq) ?_
 ·intro b hb apz;refine abn b (Nat.lt_of_lt_of_le hb h.x_) (fun q=>?_);rcases h.new id b q with q2 | q2
  all_goals grind
 ·have hl2:=h2.length;have hln:=aaF.1;refine JL (Ax.ac8 _ _) ⟨by grind [Ow],v',by simp [Cb,Ax.P_],?_⟩;rcases aaF.2 with ⟨q,h0⟩ | ⟨g,cap,cur,q,_,q2,q3,q4,q5,q6⟩
  ·simp_all [Cb,Value.ownBlock,Ax.P_]
  ·refine .inr ⟨g,cap,cur,q,by simp [Cb,q,Value.ownBlock,Ax.P_],q2,q3,q4,q5,?_⟩;grind [An.aaA,BO,List.take_append_drop]
theorem DW.clip {P:Program} {I:World->Prop} {o:Oper} {st:St} {K:St->Prop} {t:TypeId} {x:Operand} {k k':IntKind} {len:Nat} {cs:List C} (E n d:Nat)
 (ho:o.op= .slice t x none (some (.const (.int k 0))) (some (.const (.int k' 0)))) (hd:o.dst=some d)
 (hK:K ((st.new ⟨d::st.pre,some (E,n,0),[],true⟩).put (some d) (.c (.h_ (d::st.pre)))))
 (hs:DG P t=some (E,n):=by kernel_rfl) (hx:st.ev x= .c (.sl len cs):=by kernel_rfl):DW P I o st K:=by
 intro F a w G Q hI hR;obtain⟨hu,inf,hi,hsz⟩:=Ec hs;have hxv:=hR.ev x;rw [hx]at hxv;simp only [Ae,Ah]at hxv;obtain⟨_,p,cap,he,_⟩:=hxv;have hb:(Instr.sliceBounds true len cap none (some (.int k 0)) (some (.int k' 0))).run P w= .ok (0,0,0) w:=by simp_all [Th,Instr.sliceBounds]
 have A_:(execOp a.eval o).run P w= .ok (.value (.slice p 0 0)) w:=by have hc: ∀ u,a.eval (.const u)=u:=fun _=>rfl;simp [execOp,ho,he,hc,Instr.sliceAt,Instr.slice,Sem.run_bind,run_underlying hu,hb,sizeOf,typeInfo,program,Sem.run,hi,hsz]
 refine AN A_ ⟨_,Cb F G (d::st.pre) none (some (.slice p 0 0)),hK,?_⟩;rw [hd];exact R.put (d:=some d) (hR.alb (d::st.pre) E n p) (by simp only [Ae,Ah,Cb,if_true];exact⟨trivial,rfl⟩)
def WN (P:Program) (f:FuncId) (E:TypeId):Prop:=
 ∀ (w:World) (v:Value) (n i vb m vc:Nat) (xs us:List Value) (cur:Array Value) (T:TypeId) (row:Option Nat),
   (w.ownsRow 0 E 1 v n xs/\row=v.ownBlock\/ ∃ p,v= .slice (some p) 0 0/\n=0/\xs=[]/\row=none)->i<=n->0<m->(∀ u∈xs,u.oneCell'=true)->(∀ u∈us,u.oneCell'=true)->us.length=m->(n+m)*8<=140737488355328->m<=vc->cur.size=vc->
   row ≠ some vb->w.heap[vb]? =some (.cells cur T (0,0))->cur.toList.take m=us->
   Calls P f #[v, .int .i64 i, .slice (some ⟨vb,0,none⟩) m vc] w fun e w'=> ∃ v',e= .returned v'/\w'.ownsRow 0 E 1 v' (n+m) (xs.take i++us++xs.drop i)/\
    w.grownBy w' row/\(v'.ownBlock=row\/ ∀ b,v'.ownBlock=some b->w.heap.size<=b)
theorem DW.ins {P:Program} {I:World->Prop} {o:Oper} {st:St} {K:St->Prop} {f:FuncId} {x y z:Operand} {r rv:Ak} {E len m:Nat} {cs ds:List C} {i:Int} (hk:Ck o.op= .call f [x,y,z]) (abR:ent P f=true) (axx:WN P f E)
 (hx: ∀ Fr a w G,R Fr st a w G->Ae w G (.c (.h_ r)) (a.eval x)) (hy: ∀ Fr a w G,R Fr st a w G->Ae w G (.c (.int .i64 i)) (a.eval y)) (hz: ∀ Fr a w G,R Fr st a w G->Ae w G (.c (.h_ rv)) (a.eval z))
 (hl:st.look r=some ⟨r,some (E,1,len),cs,true⟩) (hl2:st.look rv=some ⟨rv,some (E,1,m),ds,true⟩) (hne:r ≠ rv) (hi:0<=i/\i<=(len:Nat)) (hm:0<m) (alO:(len+m)*8<=140737488355328)
 {s1:St} (hls:Cn (st.new ⟨r,some (E,1,len+m),cs.take i.toNat++ds++cs.drop i.toNat,true⟩) s1) (hK:K (s1.put o.dst (.c (.h_ r)))):DW P I o st K:=by
 intro F a w G Q hI hR;have hr:=Se (a:=a) hk abR w;unfold Oper.wp Oper.upon;rw [hr];obtain⟨hm1, -⟩:=Bh hl;obtain⟨hm2, -⟩:=Bh hl2;have hxv:=hx F a w G hR;have hyv:=hy F a w G hR;have hzv:=hz F a w G hR;simp only [Ae,Ah]at hxv hyv hzv;obtain⟨v,xs,k1,k2,k3,k4⟩:=FT (e:=⟨r,some (E,1,len),cs,true⟩) rfl (hR.store _ hm1);obtain⟨u,us,q1,q2,q3,q4⟩:=FT (e:=⟨rv,some (E,1,m),ds,true⟩) rfl (hR.store _ hm2);have hxe:a.eval x=v:=by grind
 have hze:a.eval z=u:=by grind
 have hye:a.eval y= .int .i64 i:=hyv;have aqZ:([x,y,z].map a.eval).toArray = #[v, .int .i64 i,u]:=by grind
 rw [aqZ];obtain⟨j,hj⟩: ∃ j:Nat,i=(j:Int):=(by grind);subst hj;simp only [toNat_natCast]at hls;rcases q4 with ⟨q4,q5⟩ | ⟨p,_,q0,_⟩
 rotate_left
 ·omega
 rcases q4.2 with ⟨_,q0⟩ | ⟨vb,vc,cur,rfl,_,c1,c2,c3,c4,c5⟩
 ·omega
 simp only [Nat.mul_one]at c4 c5;have hrv:G.p_ rv=some vb:=q5.symm;have hlx:xs.length=len:=by
  have h5:cs.length=len*1:=by have:=hR.store _ hm1;grind [Be]
  have h6:cs.length=xs.length:=k3.length;omega
 have hlu:us.length=m:=by grind
 have hold:(w.ownsRow 0 E 1 v len xs/\G.p_ r=v.ownBlock\/ ∃ p,v= .slice (some p) 0 0/\len=0/\xs=[]/\G.p_ r=none):=by grind
 refine(axx w v len j vb m vc xs us cur E (G.p_ r) hold (by omega) hm (Al.one k3) (Al.one q3) hlu alO c2 c4 (fun q=>hne (hR.inj _ _ _ q hrv)) c1 c5).mono fun e w' ⟨v',he,h1,h2,h3⟩=>?_;subst he;have afu:Al w G (cs.take j++ds++cs.drop j) (xs.take j++us++xs.drop j):=((k3.take j).append q3).append (k3.drop j);have hp:Ap (cs.take j++ds++cs.drop j)=true:=by have p1:Ap cs=true:=hR.B_ _ hm1 rfl;have p2:Ap ds=true:=hR.B_ _ hm2 rfl;grind [Cu]
 have fin: ∃ G',R F (st.new ⟨r,some (E,1,len+m),cs.take j++ds++cs.drop j,true⟩) a w' G'/\G'.own r=some v'/\v'.oneCell'=true:=by
  rcases hold with ⟨g1,g2⟩ | ⟨p,g1,g2,g3,g4⟩
  ·exact R.amy hR hl hp g2.symm afu g1 h1 (by grind) (by grind)
  ·rw [g4]at h2 h3;exact R.amy hR hl (v:= .slice none 0 0) (len:=0) (xs:=[]) hp (by rw [g4];rfl) afu ⟨by simp, .inl ⟨rfl,rfl⟩⟩ h1 h2 h3
 obtain⟨G',g1,g2,g3⟩:=fin;exact⟨_,G',hK,(g1.less hls).put (by simp_all [Ae,Ah])⟩
end Go.PL
namespace Go.PL
open Go Go.RowKit
variable {T:Bj}
inductive VT where
 | k (kd:Kd)
 | s (E:Nat)
 | f (g:FuncId)
def Eo (T:Bj):VT->Type
 | .k kd=>PT T.den kd
 | .s E=>T.den E
 | .f _=>Unit
def Acl (T:Bj):(k:Kd)->PT T.den k
 | .int _=>(default:Int)
 | .bool =>(default:Bool)
 | .str =>(default:List UInt8)
 | .u_ E=>(default:List (T.den E))
def Acm (T:Bj):(t:VT)->Eo T t
 | .k kd=>Acl T kd
 | .s E=>(T.inh E).default
 | .f _=>()
def Qz:(t:VT)->Eo T t->DV T
 | .k kd,x=> .c (.k kd x)
 | .s E,x=> .agg (iN E x)
 | .f g,_=> .c (.c (.fn g))
def Ep:(t:VT)->Eo T t->V
 | .k kd,x=> .c (Bz T.enc kd x)
 | .s E,x=> .agg (T.enc E x)
 | .f g,_=> .c (.fn g)
theorem PV (t:VT) (x:Eo T t):(Qz t x).toV =Ep t x:=by
 cases t with
 | k kd=>simp only [Qz,DV.toV,DC.toC,Ep]
 | s E=>exact congrArg V.agg (Gx E x)
 | f g=>simp only [Qz,DV.toV,DC.toC,Ep]
theorem Sy {H:Aw T} {nx:Nat} (t:VT) (x:Eo T t):(Qz t x).ok H nx:=by cases t<;>grind [Qz,DV.ok,DC.ok,MT]
def asC:DV T->Option (DC T)
 | .c x=>some x
 | _=>none
def asA:DV T->Option (List (DC T))
 | .agg cs=>some cs
 | _=>none
def iS (kd:Kd) (v:DV T):Option (PT T.den kd):=match asC v with
 | some x=>IW false kd x
 | none=>none
def aix (E:Nat) (v:DV T):Option (T.den E):=match asA v with
 | some cs=>vx false E cs
 | none=>none
def pO (g:FuncId):DV T->Option Unit
 | .c (.c (.fn g'))=>match Nat.beq g' g with
   | true=>some ()
   | false=>none
 | _=>none
def wX:(t:VT)->DV T->Option (Eo T t)
 | .k kd,v=>iS kd v
 | .s E,v=>aix E v
 | .f g,v=>pO g v
theorem Z5 {v:DV T} {x:DC T} (h:asC v=some x):v= .c x:=by unfold asC at h;grind
theorem Z6 {v:DV T} {x:List (DC T)} (h:asA v=some x):v= .agg x:=by unfold asA at h;grind
theorem rZ {kd:Kd} {v:DV T} {x:PT T.den kd} (h:iS kd v=some x):v.toV= .c (Bz T.enc kd x):=by
 unfold iS at h;split at h
 ·rename_i y hy;rw [Z5 hy];simp only [DV.toV,(CR h).2 rfl]
 ·cases h
theorem Aaf {E:Nat} {v:DV T} {x:T.den E} (h:aix E v=some x):v.toV= .agg (T.enc E x):=by
 unfold aix at h;split at h
 ·rename_i y hy;rw [Z6 hy];simp only [DV.toV,(Ie h).2 rfl]
 ·cases h
theorem Aag {g:FuncId} {v:DV T} {x:Unit} (h:pO g v=some x):v.toV= .c (.fn g):=by unfold pO at h;grind [eq_of_beq_eq_true,DV.toV,DC.toC]
theorem Z7 {t:VT} {v:DV T} {x:Eo T t} (h:wX t v=some x):v.toV=Ep t x:=by
 cases t with
 | k kd=>exact rZ h
 | s E=>exact Aaf h
 | f g=>exact Aag h
def XS (T:Bj):List VT->Type
 | []=>Unit
 | t::ts=>Eo T t×XS T ts
def F5:(ts:List VT)->XS T ts->List V
 | [],_=>[]
 | t::ts,x=>Ep t x.1::F5 ts x.2
def U3:(ts:List VT)->List (DV T)->Option (XS T ts)
 | [],[]=>some ()
 | t::ts,v::vs=>match wX t v,U3 ts vs with
   | some x,some y=>some (x,y)
   | _,_=>none
 | _,_=>none
theorem WO: ∀ {ts:List VT} {vs:List (DV T)} {x:XS T ts},U3 ts vs=some x->Bf vs=F5 ts x
 | [],[],x,_=>by simp only [Bf,F5]
 | [],_::_,_,h=>by simp [U3]at h
 | _::_,[],_,h=>by simp [U3]at h
 | t::ts,v::vs,x,h=>by
   unfold U3 at h;split at h
   ·rename_i a b h1 h2;injection h with h;subst h;simp only [Bf,F5,Z7 h1,WO h2]
   ·cases h
def RT (T:Bj):List VT->Type
 | []=>Unit
 | [t]=>Eo T t
 | t::u::ts=>Eo T t×RT T (u::ts)
def Acn (T:Bj):(ts:List VT)->RT T ts
 | []=>()
 | [t]=>Acm T t
 | t::u::ts=>(Acm T t,Acn T (u::ts))
instance (ts:List VT):Inhabited (RT T ts):=⟨Acn T ts⟩
def CB:(ts:List VT)->RT T ts->List (DV T)
 | [],_=>[]
 | [t],x=>[Qz t x]
 | t::u::ts,x=>Qz t x.1::CB (u::ts) x.2
def U4:(ts:List VT)->RT T ts->DV T
 | [],_=> .tup []
 | [t],x=>Qz t x
 | t::u::ts,x=> .tup (CB (t::u::ts) x)
def Cp:(ts:List VT)->RT T ts->List V
 | [],_=>[]
 | [t],x=>[Ep t x]
 | t::u::ts,x=>Ep t x.1::Cp (u::ts) x.2
def I9:(ts:List VT)->RT T ts->V
 | [],_=> .tup []
 | [t],x=>Ep t x
 | t::u::ts,x=> .tup (Cp (t::u::ts) x)
theorem Z8: ∀ (ts:List VT) (x:RT T ts),Bf (CB ts x)=Cp ts x
 | [],_=>by simp only [CB,Bf,Cp]
 | [t],x=>congrArg (fun z=>[z]) (PV t x)
 | t::u::ts,x=>by simp only [CB,Bf,Cp,PV,Z8 (u::ts)]
theorem OU: ∀ (ts:List VT) (x:RT T ts),(U4 ts x).toV =I9 ts x
 | [],_=>by simp only [U4,DV.toV,I9,Bf]
 | [t],x=>PV t x
 | t::u::ts,x=>by simp only [U4,DV.toV,I9,Z8]
theorem U5 {H:Aw T} {nx:Nat}: ∀ (ts:List VT) (x:RT T ts),CQ H nx (CB ts x)
 | [],_=>by simp only [CB,CQ]
 | [t],x=>by simp only [CB,CQ,and_true];exact Sy t x
 | t::u::ts,x=>by simp only [CB,CQ,Sy,U5 (u::ts),and_self]
theorem Sz {H:Aw T} {nx:Nat}: ∀ (ts:List VT) (x:RT T ts),(U4 ts x).ok H nx
 | [],_=>by simp only [U4,DV.ok,CQ]
 | [t],x=>Sy t x
 | t::u::ts,x=>by grind [U4,DV.ok,U5]
def iT:Kd->Bool
 | .u_ _=>false
 | _=>true
def U6 (T:Bj):VT->Bool
 | .k kd=>iT kd
 | .s E=>(T.ks E).all iT
 | .f _=>true
theorem Z9 {den:Nat->Type} {enc: ∀ E,den E->List C}: ∀ (ks:List Kd) (y:DK den ks),(BD enc ks y).all C.flat=ks.all iT
 | [],_=>rfl
 | k::ks,y=>by simp only [BD,all_cons,Z9 ks];cases k<;>rfl
theorem Rh (t:VT) (x:Eo T t):(Ep t x).flat =U6 T t:=by
 cases t with
 | k kd=>cases kd<;>rfl
 | s E=>
   show (T.enc E (show T.den E from x)).all C.flat=(T.ks E).all iT;rw [<-T.aa0,Z9]
 | f g=>rfl
theorem WP: ∀ (ts:List VT) (x:RT T ts),Lu (Cp ts x)=ts.all (U6 T)
 | [],_=>by simp [Cp,Lu]
 | [t],x=>by simp only [Cp,Lu,all_cons,all_nil,Bool.and_true];exact Rh t x
 | t::u::ts,x=>by simp only [Cp,Lu,Rh,WP (u::ts),all_cons]
theorem LZ: ∀ (ts:List VT) (x:RT T ts),(I9 ts x).flat =ts.all (U6 T)
 | [],_=>by simp [I9,V.flat,Lu]
 | [t],x=>by simp only [I9,all_cons,all_nil,Bool.and_true];exact Rh t x
 | t::u::ts,x=>by simp only [I9,V.flat,WP]
def Kg (m:Nat):(k:Kd)->PT T.den k->List OE
 | .u_ E,l=>match m with
   | 1=>[⟨false,E,T.sz E,List.length l,List.flatMap (T.enc E) l⟩]
   | 2=>[⟨true,E,T.sz E,List.length l,AC T E (List.length l:Nat) 0 l⟩]
   | _=>[]
 | _,_=>[]
def Qp (m:Nat):Kd->Nat
 | .u_ _=>match m with
   | 1=>1
   | 2=>1
   | _=>0
 | _=>0
def QA (m j:Nat) (k:Kd) (x:PT T.den k):PC:=match Qp m k with
 | 0=> .c (Bz T.enc k x)
 | _=> .o j
def ac (m:Nat) (id:Ak) (k:Kd):List Ak:=match Qp m k with
 | 0=>[]
 | _=>match m with
   | 2=>[1000003::id]
   | _=>[id]
def Cq:List Nat->(ks:List Kd)->DK T.den ks->List OE
 | m::ms,k::ks,x=>Kg m k x.1++Cq ms ks x.2
 | _,_,_=>[]
def Fp:List Nat->Nat->(ks:List Kd)->DK T.den ks->List PC
 | m::ms,j,k::ks,x=>QA m j k x.1::Fp ms (j+Qp m k) ks x.2
 | [],j,k::ks,x=> .c (Bz T.enc k x.1)::Fp [] j ks x.2
 | _,_,[],_=>[]
def L2:List Nat->Nat->Ak->List Kd->List Ak
 | m::ms,i,G_,k::ks=>ac m (i::G_) k++L2 ms (i+1) G_ ks
 | _,_,_,_=>[]
def Fq:List Nat->List Kd->Nat
 | m::ms,k::ks=>Qp m k+Fq ms ks
 | _,_=>0
def Fe (T:Bj):VT->List Kd
 | .k kd=>[kd]
 | .s E=>T.ks E
 | .f _=>[]
def OV:(t:VT)->Eo T t->DK T.den (Fe T t)
 | .k _,x=>(x,())
 | .s E,x=>T.un E x
 | .f _,_=>()
def IZ (m:List Nat) (j:Nat):(t:VT)->Eo T t->PP
 | .k kd,x=> .c (QA (m.headD 0) j kd x)
 | .s E,x=> .a (Fp m j (T.ks E) (T.un E x))
 | .f g,_=> .c (.c (.fn g))
def Dr:List (List Nat)->(ts:List VT)->RT T ts->List OE
 | m::_,[t],x=>Cq m (Fe T t) (OV t x)
 | m::ms,t::u::ts,x=>Cq m (Fe T t) (OV t x.1)++Dr ms (u::ts) x.2
 | _,_,_=>[]
def B2:List (List Nat)->Nat->(ts:List VT)->RT T ts->List PP
 | m::_,j,[t],x=>[IZ m j t x]
 | [],j,[t],x=>[IZ [] j t x]
 | m::ms,j,t::u::ts,x=>IZ m j t x.1::B2 ms (j+Fq m (Fe T t)) (u::ts) x.2
 | [],j,t::u::ts,x=>IZ [] j t x.1::B2 [] j (u::ts) x.2
 | _,_,[],_=>[]
def ae (T:Bj):List (List Nat)->Nat->Ak->List VT->List Ak
 | m::ms,p,G_,t::ts=>L2 m 0 (p::G_) (Fe T t)++ae T ms (p+1) G_ ts
 | _,_,_,_=>[]
structure CE (T:Bj) (P:Program) (I:World->Prop) where
 f:FuncId
 ps:List VT
 rs:List VT
 run:XS T ps->Option (RT T rs)
 ok: ∀ x r,run x=some r->Ce P I f (F5 ps x) (· =I9 rs r)
 ow:List (List Nat):=[]
 okx:ow ≠ []-> ∀ x r,run x=some r->MV P I f (F5 ps x) (Dr ow rs r) (B2 ow 0 rs r):=by exact fun h=>absurd rfl h
 ins:Option TypeId:=none
 apr: ∀ E,ins=some E->WN P f E:=by exact fun _ h=>nomatch h
 tab:Option (Nat×List (List UInt8)):=none
 ao2: ∀ g t,tab=some (g,t)->OG I g t:=by exact fun _ _ h=>nomatch h
def Ri {P:Program} {I:World->Prop} (f:FuncId) (ws:List (DV T)):List (CE T P I)->Option ((e:CE T P I)×XS T e.ps)
 | []=>none
 | e::r=>match Nat.beq e.f f with
   | true=>match U3 e.ps ws with
     | some x=>some ⟨e,x⟩
     | none=>Ri f ws r
   | false=>Ri f ws r
theorem F6 {P:Program} {I:World->Prop} {f:FuncId} {ws:List (DV T)}: ∀ {l:List (CE T P I)} {e:CE T P I} {x:XS T e.ps},Ri f ws l=some ⟨e,x⟩->e.f=f/\Bf ws=F5 e.ps x
 | [],_,_,h=>by cases h
 | a::r,e,x,h=>by
   unfold Ri at h;split at h
   ·rename_i hb;split at h
    ·rename_i y hy;injection h with h;injection h with h1 h2;subst h1;have h2:=eq_of_heq h2;grind [eq_of_beq_eq_true,WO]
    ·exact F6 h
   ·exact F6 h
def iU (st:Ai T) (c:DC T):Option (DC T):=match K3 c with
 | some id=>match DO st id with
   | some ⟨E,l⟩=>some (.k (.u_ E) l)
   | none=>none
 | none=>some (ZY c)
def ah (st:Ai T):List (DC T)->Option (List (DC T))
 | []=>some []
 | c::cs=>match iU st c,ah st cs with
   | some d,some ds=>some (d::ds)
   | _,_=>none
def iV (st:Ai T):DV T->Option (DV T)
 | .c x=>match iU st x with
   | some y=>some (.c y)
   | none=>none
 | .agg cs=>match ah st cs with
   | some ds=>some (.agg ds)
   | none=>none
 | _=>none
def MW (st:Ai T):List (DV T)->Option (List (DV T))
 | []=>some []
 | v::vs=>match iV st v,MW st vs with
   | some d,some ds=>some (d::ds)
   | _,_=>none
def sa (c:DC T):List Ak:=match K3 c with
 | some id=>[id]
 | none=>[]
def fP:List (DC T)->List Ak
 | []=>[]
 | c::cs=>sa c++fP cs
def sd:DV T->List Ak
 | .c x=>sa x
 | .agg cs=>fP cs
 | _=>[]
def SA:List (DV T)->List Ak
 | []=>[]
 | v::vs=>sd v++SA vs
theorem MX {c:DC T} (h:K3 c=none): ∀ id,c.toC ≠ .h_ id:=fun i he=>by
 cases c with
 | c x=>grind [DC.toC,K3]
 | k kd x=>cases kd<;>simp [DC.toC,Bz]at he
 | ip=>simp [DC.toC]at he
 | rp=>simp [DC.toC]at he
 | ap=>simp [DC.toC]at he
 | bs=>simp [DC.toC]at he
 | clo b f cs=>cases b<;>simp [DC.toC]at he
theorem WQ {st:Ai T} {c d:DC T} (h:iU st c=some d):KZ st.toSt c.toC=d.toC:=by
 unfold iU at h;split at h
 ·rename_i id ho;have:=Em ho;subst this;split at h
  ·rename_i E l hr;injection h with h;subst h;simp only [DC.toC,KZ,(BU hr).1,Bz,if_true]
  ·cases h
 ·rename_i ho;injection h with h;subst h;rw [ZZ];have:=MX ho;cases hc:c.toC<;>simp only [KZ,G5];grind
theorem WR {st:Ai T}: ∀ {cs ds:List (DC T)},ah st cs=some ds->(As cs).map (KZ st.toSt)=As ds
 | [],ds,h=>by grind [ah,As]
 | c::cs,ds,h=>by
   unfold ah at h;split at h
   ·rename_i d ds' h1 h2;injection h with h;subst h;simp only [As,map_cons,WQ h1,WR h2]
   ·cases h
theorem WS {st:Ai T} {v w:DV T} (h:iV st v=some w):BC st.toSt v.toV=w.toV:=by unfold iV at h;grind [DV.toV,BC,WQ,WR]
theorem Gy {st:Ai T}: ∀ {vs ws:List (DV T)},MW st vs=some ws->(Bf vs).map (BC st.toSt)=Bf ws
 | [],ws,h=>by grind [MW,Bf]
 | v::vs,ws,h=>by
   unfold MW at h;split at h
   ·rename_i d ds' h1 h2;injection h with h;subst h;simp only [Bf,map_cons,WS h1,Gy h2]
   ·cases h
theorem ai (c:DC T):Sd c.toC=sa c:=by
 unfold sa;split
 ·rename_i id ho;rw [Em ho];simp only [DC.toC,Sd]
 simp_all [MX,Sd]
theorem aj: ∀ cs:List (DC T),(As cs).flatMap Sd=fP cs
 | []=>by simp [As,fP]
 | c::cs=>by simp only [As,flatMap_cons,ai,aj cs,fP]
theorem pP (v:DV T):vF v.toV=sd v:=by cases v<;>grind [DV.toV,vF,sd,ai,aj]
theorem FK: ∀ vs:List (DV T),CY (Bf vs)=SA vs
 | []=>by simp [Bf,CY,SA]
 | v::vs=>by have:=FK vs;simp only [CY]at this ⊢;simp only [Bf,flatMap_cons,pP,this,SA]
theorem Dk (t:VT) (x:Eo T t):(Ep t x).pure =true:=by
 cases t with
 | k kd=>grind [Ep,V.pure,ZB]
 | s E=>grind [Ep,V.pure,ZD]
 | f g=>rfl
theorem Kh: ∀ (ts:List VT) (x:XS T ts),Ci (F5 ts x)=true
 | [],_=>by simp only [F5,Ci]
 | t::ts,x=>by simp only [F5,Ci,Dk,Kh ts,Bool.and_self]
theorem Ai.arg_val {st:Ai T} {key:List GL} {x:Operand} {v:DV T} (h:st.arg key x=some v) (g:Bool):(st.toSt.arg g x).2=v.toV:=by
 have e:=st.abE x;unfold Ai.arg at h;unfold St.arg;split at h
 ·grind [DV.toV]
 ·rename_i hne;injection h with h;subst h;rw [e];cases hv:st.ev x<;>grind [DV.toV]
theorem U7 {st:Ai T} {key:List GL} (g:Bool): ∀ {xs:List Operand} {vs:List (DV T)},IX st key xs=some vs->(st.toSt.args g xs).2=Bf vs
 | [],vs,h=>by grind [IX,St.args,Bf]
 | x::xs,vs,h=>by
   unfold IX at h;split at h
   ·rename_i v vs' h1 h2;injection h with h;subst h;simp only [St.args,Bf,Ai.arg_val h1 g,U7 g h2]
   ·cases h
def fQ {P:Program} {I:World->Prop} (Γ:List (CE T P I)) (key:List GL) (st:Ai T) (f:FuncId) (xs:List Operand) (d:Option Nat):M (Ai T):=
 match IX st key xs with
 | some vs=>match MW st vs with
   | some ws=>match Ri f ws Γ with
     | some ⟨e,x⟩=> .opt (gk key (e.run x)) fun r=>match key with
       | []=>match e.rs.all (U6 T)with
         | true=> .ret (st.put d (U4 e.rs r))
         | false=>match SA vs with
           | []=> .ret (st.put d (U4 e.rs r))
           | [id]=>match st.frz id with
             | some s=> .ret (s.put d (U4 e.rs r))
             | none=> .no
           | _=> .no
       | l::ls=>match e.rs.all (U6 T),SA vs with
         | true,_=> .ret (st.put d (.g (l::ls) (U4 e.rs r)))
         | false,[]=> .ret (st.put d (.g (l::ls) (U4 e.rs r)))
         | _,_=> .no
     | none=> .no
   | none=> .no
 | none=> .no
def wY (H:Aw T) (P:Program) (I:World->Prop) (ops:Array Oper) (st:Ai T) (o:Oper) (a_:Ai T):Prop:=
 (∃ H',Nx H st H' a_)/\a_.pre=st.pre/\ ∀ K:St->Prop,K a_.toSt->eW P I ops o st.toSt K
section
variable {H:Aw T} {P:Program} {I:World->Prop} {Γ:List (CE T P I)} {st:Ai T}
theorem uh (hw:AJ H st) {f:FuncId} {xs:List Operand} {o:Oper} (hk:Ck o.op= .call f xs):
 Yl (fQ Γ [] st f xs o.dst) (fun a_=>(∃ H',Nx H st H' a_)/\a_.pre=st.pre/\ ∀ K:St->Prop,K a_.toSt->tE P I o st.toSt K):=by
 unfold fQ;split
 ·rename_i vs hvs;split
  ·rename_i ws hws;split
   ·rename_i e x hx;obtain⟨he,hx⟩:=F6 hx;refine Yl.opt fun r hr=>?_;obtain⟨a1,a2,a3⟩:=Dj (key:=[]) hw (fun _ hl=>by cases hl) rfl hvs;change (st.toSt.args true xs).1 at a2;change (st.toSt.args true xs).2=Bf vs at a3;have hp:=e.ok x r (So hr rfl);rw [he]at hp;have hs:(Bf vs).map (BC st.toSt)=F5 e.ps x:=by rw [Gy hws,hx]
    have base: ∀ a_:Ai T,((I9 e.rs r).flat =true\/(CY (Bf vs)).length <=1/\ ∀ id∈CY (Bf vs),st.toSt.ab6 id=true)->a_.toSt=st.toSt.after (CY (Bf vs)) o.dst (I9 e.rs r)-> ∀ K:St->Prop,K a_.toSt->tE P I o st.toSt K:=by intro a_ h1 h2 K hK;refine .inr ?_;grind [Kh]
    simp only;split
    ·rename_i hf;refine Yl.ret ⟨Ai.aar hw _ (Sz _ _),AW _ _ _,base _ (.inl (by rw [LZ];exact hf)) ?_⟩;simp_all [Ai.k_,OU,St.after,LZ]
    ·rename_i hf;have hnf: ¬(I9 e.rs r).flat =true:=by rw [LZ,hf];simp
     split
     ·rename_i ht;refine Yl.ret ⟨Ai.aar hw _ (Sz _ _),AW _ _ _,base _ (.inr (by rw [FK,ht];simp)) ?_⟩;simp_all [Ai.k_,OU,FK,St.after]
     ·rename_i id ht;split
      ·rename_i s hs';obtain⟨⟨H1,hN⟩,h2,h3,h4⟩:=Ai.afA hw hs';refine Yl.ret ⟨Ai.R_ hN _ (Sz _ _),by rw [AW];exact h4,base _ (by grind [FK]) ?_⟩;simp_all [Ai.k_,OU,FK,St.after]
      ·exact Yl.no
     ·exact Yl.no
   ·exact Yl.no
  ·exact Yl.no
 ·exact Yl.no
theorem L3 {H:Aw T} {st:Ai T} {key:List GL} (hw:AJ H st) (hk:Fm H st.nx key) (d:Option Nat) {v:DV T} (hv:Bc key=true->v.ok H st.nx): ∃ H',Nx H st H' (st.put d (.g key v)):=
 Ai.aar hw d (by simp only [DV.ok];exact⟨hk,hv⟩)
theorem ui (hw:AJ H st) {f:FuncId} {xs:List Operand} {o:Oper} {key:List GL} (hk:Ck o.op= .call f xs) (am5:Fm H st.nx key) (hne:key ≠ []):
 Yl (fQ Γ key st f xs o.dst) (fun a_=>(∃ H',Nx H st H' a_)/\a_.pre=st.pre/\ ∀ K:St->Prop,K a_.toSt->wpG P I o st.toSt (Bc key) K):=by
 unfold fQ;split
 ·rename_i vs hvs;split
  ·rename_i ws hws;split
   ·rename_i e x hx;obtain⟨he,hx⟩:=F6 hx;refine Yl.opt fun r hr=>?_;have hs:(Bf vs).map (BC st.toSt)=F5 e.ps x:=by rw [Gy hws,hx]
    have base:((I9 e.rs r).flat =true\/SA vs=[])-> ∀ K:St->Prop,K (st.put o.dst (.g key (U4 e.rs r))).toSt ->wpG P I o st.toSt (Bc key) K:=by
     intro h1 K hK;refine .inr ?_;rw [hk];simp only;rw [U7 _ hvs,hs,FK];rw [Ai.k_]at hK;refine⟨fun hc=>?_,I9 e.rs r,h1,fun hc=>?_,by grind [DV.toV,OU]⟩
     ·obtain⟨a1,a2,a3⟩:=Dj hw am5 hc hvs;grind [Kh]
     ·have hp:=e.ok x r (So hr hc);grind
    split
    ·grind
    ·rename_i l ls;split
     all_goals simp_all [Yl.ret,L3,Sz,AW,LZ,Yl.no]
   ·exact Yl.no
  ·exact Yl.no
 ·exact Yl.no
end
end Go.PL
namespace Go.PL
open Go Go.RowKit
variable {T:Bj}
def Ado (n:Nat) (want b:Bool):GL:=⟨n,want,b==want⟩
def ak (st:Ai T) (ops:Array Oper) (j:Nat) (want:Bool):Option (List GL):=
 match ops[j]? with
 | some p=>match p.dst with
   | some t=>match ZI st (.tmp t),st.get t with
     | n+1, .c (.k .bool b)=>some [Ado n want b]
     | n+1, .g k (.c (.k .bool b))=>some (Ado n want b::k)
     | _,_=>none
   | none=>none
 | none=>none
theorem OW {H:Aw T} {st:Ai T} {ops:Array Oper} {j:Nat} {want:Bool} {key:List GL} (hw:AJ H st) (h:ak st ops j want=some key):I5 st.toSt ops j want=some (Bc key)/\Fm H st.nx key/\key ≠ []:=by
 unfold ak at h;unfold I5;split at h
 ·rename_i p hp;split at h
  ·rename_i t ht;simp only [hp,ht];have hg:=st.aa6 t;have hok:=Ai.afZ hw t;have tg: ∀ n,ZI st (.tmp t)=n+1->n<st.nx/\H.v n=st.get t:=by
    intro n hn;unfold ZI at hn;simp only at hn;split at hn
    ·rename_i hb;have:=Zw hw.tm hn;grind [Ai.get]
    ·cases hn
   split at h
   ·rename_i n b hn hv;injection h with h;subst h;obtain⟨q1,q2⟩:=tg n hn;rw [hv]at hg;refine⟨by rw [hg];rfl,fun l hl=>?_,by simp⟩;simp only [mem_singleton]at hl;subst hl;exact⟨q1,by show (_==_)=(iM (H.v n)==_);rw [q2,hv];rfl⟩
   ·rename_i n k b hn hv;injection h with h;subst h;obtain⟨q1,q2⟩:=tg n hn;rw [hv]at hg hok;simp only [DV.ok]at hok;refine⟨?_,fun l hl=>?_,by simp⟩
    ·rw [hg];simp only [DV.toV,DC.toC,Bz];cases k<;>grind [Bc,Ado]
    ·rcases mem_cons.1 hl with rfl | hl
     ·exact⟨q1,by show (_==_)=(iM (H.v n)==_);rw [q2,hv];rfl⟩
     grind
   ·cases h
  ·cases h
 ·cases h
def AfB:DV T->Option Ak
 | .c x=>K3 x
 | _=>none
def dop {P:Program} {I:World->Prop} (Γ:List (CE T P I)) (ops:Array Oper) (o:Oper) (st:Ai T):M (Ai T):=
 match o.guard with
 | none=>match Ck o.op with
   | .rd => .Q_ (LW P [] st o.op) fun v=> .ret (st.put o.dst v)
   | .ef =>t8 P st o
   | .call f xs=>fQ Γ [] st f xs o.dst
   | .cut x=>match st.arg [] x with
     | some u=>match AfB u with
       | some id=>match st.frz id with
         | some s=> .Q_ (LW P [] s o.op) fun v=> .ret (s.put o.dst v)
         | none=> .no
       | none=> .Q_ (LW P [] st o.op) fun v=> .ret (st.put o.dst v)
     | none=> .no
   | .no => .no
 | some (j,want)=>match ak st ops j want with
   | some key=>match Ck o.op with
     | .rd => .Q_ (LW P key st o.op) fun v=> .ret (st.put o.dst (.g key v))
     | .call f xs=>fQ Γ key st f xs o.dst
     | _=> .no
   | none=> .no
section
variable {H:Aw T} {P:Program} {I:World->Prop} {Γ:List (CE T P I)} {st:Ai T} {ops:Array Oper}
theorem L4 (H:Aw T) (n:Nat):Fm H n []:=fun _ hl=>by cases hl
theorem L5 (hw:AJ H st) {o:Oper} {Φ:Ai T->Prop} (h: ∀ v:DV T,v.ok H st.nx->(DU P st.toSt true o.op).1->(DU P st.toSt true o.op).2=v.toV->Φ (st.put o.dst v)):Yl (M.Q_ (LW P [] st o.op) fun v=> .ret (st.put o.dst v)) Φ:=
 Yl.Q_ (LX hw (L4 _ _) o.op) fun v hv=>by obtain⟨a,b,c⟩:=hv rfl;exact Yl.ret (h v a b c)
theorem iW (hw:AJ H st) (o:Oper):Yl (dop Γ ops o st) (wY H P I ops st o):=by
 unfold dop;split
 ·rename_i hg;have W: ∀ {a_:Ai T},((∃ H',Nx H st H' a_)/\a_.pre=st.pre/\ ∀ K:St->Prop,K a_.toSt->tE P I o st.toSt K)->wY H P I ops st o a_:=fun⟨a,b,c⟩=>⟨a,b,fun K hK=>by unfold eW;rw [hg];exact c K hK⟩;split
  ·rename_i hk;refine L5 hw fun v hv h1 h2=>W ⟨Ai.aar hw _ hv,AW _ _ _,fun K hK=> .inr ?_⟩;grind [Ai.k_]
  ·rename_i hk;refine(YD hw o).mono fun a_ h=>?_;obtain⟨h1,h2,h3,h4⟩:=h;refine W ⟨h1,h4,fun K hK=> .inl fun F a w G Q hI hR=>?_⟩;obtain⟨nx,w',G',q1,q2⟩:=(Sc hR h2).out;unfold Oper.wp Oper.upon;rw [q1];rcases q2 with ⟨v,rfl,q3⟩ | ⟨rfl,q3⟩
   ·exact⟨_,G',hK,q3.less h3⟩
   ·exact⟨_,G',hK,q3.less h3⟩
  ·rename_i f xs hk;exact(uh hw hk).mono fun a_ h=>W h
  ·rename_i x hk;split
   ·rename_i u hx;obtain⟨a1,a2,a3⟩:=Ke hw hx;split
    ·rename_i id ho;have hu:u= .c (.c (.h_ id)):=by unfold AfB at ho;grind [Em]
     split
     ·rename_i s hs;obtain⟨⟨H1,hN⟩,h2,h3,h4⟩:=Ai.afA hw hs;have axL:st.toSt.cutAt true x=s.toSt:=by grind [St.cutAt,DV.toV,DC.toC]
      refine L5 hN.ok fun v hv q1 q2=>W ⟨Ai.R_ hN _ hv,by rw [AW];exact h4,fun K hK=> .inr ?_⟩;grind [Ai.k_]
     ·exact Yl.no
    ·rename_i ho;have axL:st.toSt.cutAt true x=st.toSt:=by
      unfold St.cutAt;rw [a3];split
      ·rename_i id he;exfalso;cases u with
       | c y=>
         simp only [DV.toV,V.c.injEq]at he;exact MX ho id he
       | _=>simp [DV.toV]at he
      ·rfl
     refine L5 hw fun v hv q1 q2=>W ⟨Ai.aar hw _ hv,AW _ _ _,fun K hK=> .inr ?_⟩;grind [Ai.k_]
   ·exact Yl.no
  ·exact Yl.no
 ·rename_i j want hg;split
  ·rename_i key am5;obtain⟨g1,g2,g3⟩:=OW hw am5;have W: ∀ {a_:Ai T},((∃ H',Nx H st H' a_)/\a_.pre=st.pre/\ ∀ K:St->Prop,K a_.toSt->wpG P I o st.toSt (Bc key) K)->wY H P I ops st o a_:=fun⟨a,b,c⟩=>⟨a,b,fun K hK=>by unfold eW;rw [hg];simp only [g1];exact c K hK⟩;split
   ·rename_i hk;refine Yl.Q_ (LX hw g2 o.op) fun v hv=>Yl.ret (W ⟨L3 hw g2 _ (fun hc=>(hv hc).1),AW _ _ _,fun K hK=> .inr ?_⟩);rw [hk];refine⟨v.toV,fun hc=>(hv hc).2,?_⟩;grind [Ai.k_,DV.toV]
   ·rename_i f xs hk;exact(ui hw hk g2 g3).mono fun a_ h=>W h
   ·exact Yl.no
  ·exact Yl.no
def AfC {P:Program} {I:World->Prop} (Γ:List (CE T P I)) (ops:Array Oper):List Oper->Ai T->M (Ai T)
 | [],st=> .ret st
 | o::rest,st=> .Q_ (dop Γ ops o st) fun a_=>AfC Γ ops rest a_
theorem Aah: ∀ (l:List Oper) (st:Ai T) (H:Aw T),AJ H st->Yl (AfC Γ ops l st) (fun a_=>(∃ H',Nx H st H' a_)/\a_.pre=st.pre/\ ∀ K:St->Prop,K a_.toSt->DN P I ops l st.toSt K)
 | [],st,H,hw=>Yl.ret ⟨⟨H,Nx.refl hw⟩,rfl,fun _ hK=>hK⟩
 | o::rest,st,H,hw=>Yl.Q_ (iW hw o) fun s hs=>by obtain⟨⟨H1,h1⟩,h2,h3⟩:=hs;refine(Aah rest s H1 h1.ok).mono fun s' hs'=>?_;obtain⟨⟨H2,k1⟩,k2,k3⟩:=hs';exact⟨⟨H2,h1.trans k1⟩,k2.trans h2,fun K hK=>h3 _ (k3 K hK)⟩
def iX {P:Program} {I:World->Prop} (Γ:List (CE T P I)) (key:List GL) (st:Ai T) (f:FuncId) (xs:List Operand):M (DV T):=
 match IX st key xs with
 | some vs=>match MW st vs with
   | some ws=>match Ri f ws Γ with
     | some ⟨e,x⟩=>Ts (e.rs.all (U6 T)) (.opt (gk key (e.run x)) fun r=> .ret (U4 e.rs r))
     | none=> .no
   | none=> .no
 | none=> .no
def Adp {P:Program} {I:World->Prop} (Γ:List (CE T P I)) (ops:Array Oper) (o:Oper) (st:Ai T):M (Ai T):=
 match o.guard with
 | none=>match Ck o.op with
   | .rd => .Q_ (LW P [] st o.op) fun v=> .ret (st.put o.dst v)
   | .call f xs=> .Q_ (iX Γ [] st f xs) fun v=> .ret (st.put o.dst v)
   | .cut _=> .Q_ (LW P [] st o.op) fun v=> .ret (st.put o.dst v)
   | _=> .no
 | some (j,want)=>match ak st ops j want with
   | some key=>match Ck o.op with
     | .rd => .Q_ (LW P key st o.op) fun v=> .ret (st.put o.dst (.g key v))
     | .call f xs=> .Q_ (iX Γ key st f xs) fun v=> .ret (st.put o.dst (.g key v))
     | .cut _=> .Q_ (LW P key st o.op) fun v=> .ret (st.put o.dst (.g key v))
     | _=> .no
   | none=> .no
theorem fR {key:List GL} (hw:AJ H st) (hk:Fm H st.nx key) {f:FuncId} {xs:List Operand}:
 Yl (iX Γ key st f xs) (fun v=>(∀ n,v.ok H n)/\v.toV.flat=true/\(Bc key=true->(st.toSt.args (Bc key) xs).1/\Ci ((st.toSt.args (Bc key) xs).2.map (BC st.toSt))=true)/\(Bc key=true->Ce P I f ((st.toSt.args (Bc key) xs).2.map (BC st.toSt)) (· =v.toV))):=by
 unfold iX;split
 ·rename_i vs hvs;split
  ·rename_i ws hws;split
   ·rename_i e x hx;obtain⟨he,hx⟩:=F6 hx;refine Yl.Ts fun hf=>Yl.opt fun r hr=>Yl.ret ?_;have hs:(Bf vs).map (BC st.toSt)=F5 e.ps x:=by rw [Gy hws,hx]
    rw [U7 _ hvs,hs,OU];refine⟨fun n=>Sz _ _,by rw [LZ];exact hf,fun hc=>⟨(Dj hw hk hc hvs).2.1,Kh _ _⟩,fun hc=>?_⟩;have hp:=e.ok x r (So hr hc);grind
   ·exact Yl.no
  ·exact Yl.no
 ·exact Yl.no
theorem Aai (hw:AJ H st) (o:Oper):Yl (Adp Γ ops o st) (fun a_=>(∃ H',Nx H st H' a_)/\a_.pre=st.pre/\ ∀ K:St->Prop,K a_.toSt->wqO P I ops o st.toSt K):=by
 unfold Adp;split
 ·rename_i hg;have W: ∀ {a_:Ai T},((∃ H',Nx H st H' a_)/\a_.pre=st.pre/\ ∀ K:St->Prop,K a_.toSt->wq1 P I o st.toSt K)->(∃ H',Nx H st H' a_)/\a_.pre=st.pre/\ ∀ K:St->Prop,K a_.toSt->wqO P I ops o st.toSt K:=(by grind [wqO]);split
  ·rename_i hk;refine L5 hw fun v hv h1 h2=>W ⟨Ai.aar hw _ hv,AW _ _ _,fun K hK=>?_⟩;grind [wq1,Ai.k_]
  ·rename_i f xs hk;refine Yl.Q_ (fR hw (L4 _ _)) fun v hv=>Yl.ret (W ⟨Ai.aar hw _ (hv.1 _),AW _ _ _,fun K hK=>?_⟩);obtain⟨q1,q2,q3,q4⟩:=hv;unfold wq1;rw [hk];exact⟨(q3 rfl).1,(q3 rfl).2,v.toV,q2,q4 rfl,by grind [Ai.k_]⟩
  ·rename_i x hk;refine L5 hw fun v hv h1 h2=>W ⟨Ai.aar hw _ hv,AW _ _ _,fun K hK=>?_⟩;grind [wq1,Ai.k_]
  ·exact Yl.no
 ·rename_i j want hg;split
  ·rename_i key am5;obtain⟨g1,g2,g3⟩:=OW hw am5;have W: ∀ {a_:Ai T},((∃ H',Nx H st H' a_)/\a_.pre=st.pre/\ ∀ K:St->Prop,K a_.toSt->wqG P I o st.toSt (Bc key) K)->(∃ H',Nx H st H' a_)/\a_.pre=st.pre/\ ∀ K:St->Prop,K a_.toSt->wqO P I ops o st.toSt K:=(by simp_all [wqO]);split
   ·rename_i hk;refine Yl.Q_ (LX hw g2 o.op) fun v hv=>Yl.ret (W ⟨L3 hw g2 _ (fun hc=>(hv hc).1),AW _ _ _,fun K hK=>?_⟩);unfold wqG;rw [hk];refine⟨v.toV,fun hc=>(hv hc).2,?_⟩;grind [Ai.k_,DV.toV]
   ·rename_i f xs hk;refine Yl.Q_ (fR hw g2) fun v hv=>Yl.ret (W ⟨L3 hw g2 _ (fun _=>hv.1 _),AW _ _ _,fun K hK=>?_⟩);grind [wqG,Ai.k_,DV.toV]
   ·rename_i x hk;refine Yl.Q_ (LX hw g2 o.op) fun v hv=>Yl.ret (W ⟨L3 hw g2 _ (fun hc=>(hv hc).1),AW _ _ _,fun K hK=>?_⟩);unfold wqG;rw [hk];refine⟨v.toV,fun hc=>(hv hc).2,?_⟩;grind [Ai.k_,DV.toV]
   ·exact Yl.no
  ·exact Yl.no
def wZ {P:Program} {I:World->Prop} (Γ:List (CE T P I)) (ops:Array Oper):List Oper->Ai T->M (Ai T)
 | [],st=> .ret st
 | o::rest,st=> .Q_ (Adp Γ ops o st) fun a_=>wZ Γ ops rest a_
theorem mf: ∀ (l:List Oper) (st:Ai T) (H:Aw T),AJ H st->Yl (wZ Γ ops l st) (fun a_=>(∃ H',Nx H st H' a_)/\a_.pre=st.pre/\ ∀ K:St->Prop,K a_.toSt->eX P I ops l st.toSt K)
 | [],st,H,hw=>Yl.ret ⟨⟨H,Nx.refl hw⟩,rfl,fun _ hK=>hK⟩
 | o::rest,st,H,hw=>Yl.Q_ (Aai hw o) fun s hs=>by obtain⟨⟨H1,h1⟩,h2,h3⟩:=hs;refine(mf rest s H1 h1.ok).mono fun s' hs'=>?_;obtain⟨⟨H2,k1⟩,k2,k3⟩:=hs';exact⟨⟨H2,h1.trans k1⟩,k2.trans h2,fun K hK=>h3 _ (k3 K hK)⟩
end
end Go.PL
namespace Go.PL
open Go Go.RowKit
variable {T:Bj}
def al (v v':V):Prop:= ∀ (w:World) (G:AG) (u:Value),Ae w G v u->Ae w G v' u
def dw (c c':C):Prop:= ∀ (w:World) (G:AG) (u:Value),Ah w G c u->Ah w G c' u
def Er:List C->List C->Prop
 | [],[]=>True
 | c::cs,d::ds=>dw c d/\Er cs ds
 | _,_=>False
theorem dw.refl (c:C):dw c c:=fun _ _ _ h=>h
theorem al.refl (c:V):al c c:=fun _ _ _ h=>h
theorem dw.ae5 {c d:C} (h:G5 c=d):dw c d:=fun _ _ _ hr=>h▸Jp hr
theorem Er.length: ∀ {cs ds:List C},Er cs ds->cs.length=ds.length
 | [],[],_=>rfl
 | [],_::_,h=>h.elim
 | _::_,[],h=>h.elim
 | c::cs,d::ds,h=>by simp [Er.length h.2]
theorem Er.append: ∀ {a b x y:List C},Er a b->Er x y->Er (a++x) (b++y)
 | [],[],_,_,_,h=>h
 | [],_::_,_,_,h,_=>h.elim
 | _::_,[],_,_,h,_=>h.elim
 | c::cs,d::ds,_,_,h,k=>⟨h.1,Er.append h.2 k⟩
theorem Er.ae5: ∀ {cs ds:List C},cs.map G5=ds->Er cs ds
 | [],ds,h=>by simp at h;subst h;trivial
 | c::cs,ds,h=>by subst h;exact⟨dw.ae5 rfl,Er.ae5 rfl⟩
theorem Er.refl: ∀ cs:List C,Er cs cs
 | []=>trivial
 | c::cs=>⟨dw.refl c,Er.refl cs⟩
theorem An.imp {w:World} {G:AG}: ∀ {cs ds:List C} {b off:Nat},Er cs ds->An w G cs b off->An w G ds b off
 | [],[],_,_,_,h=>h
 | [],_::_,_,_,h,_=>h.elim
 | _::_,[],_,_,h,_=>h.elim
 | c::cs,d::ds,b,off,h,hr=>by simp only [An]at hr ⊢;obtain⟨⟨v,h1,h2⟩,h3⟩:=hr;exact⟨⟨v,h1,h.1 _ _ _ h2⟩,An.imp h.2 h3⟩
theorem Al.imp {w:World} {G:AG}: ∀ {cs ds:List C} {vs:List Value},Er cs ds->Al w G cs vs->Al w G ds vs
 | [],[],_,_,h=>h
 | [],_::_,_,h,_=>h.elim
 | _::_,[],_,h,_=>h.elim
 | c::cs,d::ds,[],_,hr=>by simp only [Al]at hr
 | c::cs,d::ds,v::vs,h,hr=>by simp only [Al]at hr ⊢;exact⟨h.1 _ _ _ hr.1,Al.imp h.2 hr.2⟩
structure Wkn (st a_:St):Prop where
 len:a_.tm.length=st.tm.length
 tm: ∀ i,al (st.tm.getD i .undef) (a_.tm.getD i .undef)
 so: ∀ e'∈a_.so,e'∈st.so\/ ∃ cs cs',(⟨e'.id,none,cs,false⟩:Ax)∈st.so/\e'=⟨e'.id,none,cs',false⟩/\Er cs cs'/\ic cs=false
 nd:(a_.so.map (·.id)).Nodup
 gh:a_.gh=st.gh
 pre:a_.pre=st.pre
theorem R.wkn {F:Fr} {st a_:St} {a:Act} {w:World} {G:AG} (h:R F st a w G) (k:Wkn st a_):R F a_ a w G:={
 dfr:=h.dfr
 size:=by rw [k.len];exact h.size
 z_:=fun i=>k.tm i _ _ _ (h.z_ i)
 I_:=by rw [k.gh];exact h.I_
 store:=fun e he=>by
  rcases k.so e he with q | ⟨cs,cs',q1,q2,q3,q4⟩
  ·exact h.store e q
  ·have:=h.store _ q1;rw [q2];simp only [Be]at this ⊢;obtain⟨b,h1,h2⟩:=this;obtain⟨Ty,cur,h3,h4,h5⟩:=h2.cells q4;exact⟨b,h1, .inr ⟨Ty,cur,h3,by rw [h4,q3.length],h5.imp q3⟩⟩
 deep:=fun e he=>by
  rcases k.so e he with q | ⟨cs,cs',q1,q2,q3,q4⟩
  ·exact h.deep e q
  ·have:=h.deep _ q1;rw [q2];exact⟨this.1,fun hd=>by have:=(this.2 hd).1;cases this⟩
 B_:=fun e he hp=>by
  rcases k.so e he with q | ⟨cs,cs',q1,q2,q3,q4⟩
  ·exact h.B_ e q hp
  grind
 nodup:=k.nd
 inj:=h.inj,lt:=h.lt,new:=h.new,wr:=h.wr,aaS:=h.aaS,inv:=h.inv,aaj:=h.aaj,os:=h.os,tape:=h.tape,output:=h.output,x_:=h.x_,ext:=h.ext}
theorem Wk.wkn {st a_:St} (k:Wkn st a_):Wk st a_:=fun _ _ _ G hR=>⟨G,hR.wkn k⟩
inductive Sg where
 | v (t:VT)
 | c (x:C)
inductive VSp where
 | c (s:Sg)
 | agg (l:List Sg)
inductive ESp where
 | box (l:List Sg)
 | row (E:Nat)
 | deep (E:Nat)
structure IF where
 ks:List Nat
 vs:List (Nat×VSp)
 ke:List Ak
 es:List (Ak×ESp)
def Sg.ts:List Sg->List VT
 | []=>[]
 | .v t::r=>t::Sg.ts r
 | .c _::r=>Sg.ts r
def VSp.ts:VSp->List VT
 | .c s=>Sg.ts [s]
 | .agg l=>Sg.ts l
def ESp.ts:ESp->List VT
 | .box l=>Sg.ts l
 | .row E=>[.k (.u_ E)]
 | .deep E=>[.k (.int .i64), .k (.u_ E)]
def AfD:List (Nat×VSp)->List VT
 | []=>[]
 | (_,p)::r=>p.ts++AfD r
def AfE:List (Ak×ESp)->List VT
 | []=>[]
 | (_,p)::r=>p.ts++AfE r
def IF.ts (sh:IF):List VT:=AfD sh.vs++AfE sh.es
def okC (x c:C):Bool:=match x,c with
 | .any,_=>true
 | .h_ i, .h_ j=>Bi i j
 | .ptr i o, .ptr j o'=>Bi i j&&Nat.beq o o'
 | .acg, .acg =>true
 | .aas, .aas =>true
 | .held, .held =>true
 | .L_, .L_ =>true
 | .fn f, .fn g=>Nat.beq f g
 | _,_=>false
theorem Aaj {x c:C} (h:okC x c=true):dw c x:=by
 unfold okC at h;split at h
 ·intro w G u hr;simp only [Ah];exact hr.one
 all_goals simp_all [AP,dw.refl]
def K4:List Sg->List (DC T)->Option (List (DV T)×List (DC T))
 | [],cs=>some ([],cs)
 | .c x::r,c::cs=>match okC x c.toC with
   | true=>K4 r cs
   | false=>none
 | .v (.k _)::r,c::cs=>match K4 r cs with
   | some (vs,ds)=>some (.c c::vs,ds)
   | none=>none
 | .v (.s E)::r,cs=>match Nat.ble (T.sz E) cs.length,K4 r (cs.drop (T.sz E))with
   | true,some (vs,ds)=>some (.agg (cs.take (T.sz E))::vs,ds)
   | _,_=>none
 | _,_=>none
def F7:List Sg->List (DV T)->Option (List (DC T)×List (DV T))
 | [],vs=>some ([],vs)
 | .c x::r,vs=>match F7 r vs with
   | some (cs,us)=>some (.c x::cs,us)
   | none=>none
 | .v _::r, .c y::vs=>match F7 r vs with
   | some (cs,us)=>some (y::cs,us)
   | none=>none
 | .v _::r, .agg ds::vs=>match F7 r vs with
   | some (cs,us)=>some (ds++cs,us)
   | none=>none
 | _::_,_=>none
def WkV (v v':DV T):Prop:=(∃ c c',v= .c c/\v'= .c c'/\G5 c.toC=c'.toC/\c'.ok)\/(∃ cs cs',v= .agg cs/\v'= .agg cs'/\(As cs).map G5=As cs'/\Cf cs')
inductive aeh {α β:Type} (P:α->β->Prop):List α->List β->Prop
 | nil:aeh P [] []
 | cons {a b l m}:P a b->aeh P l m->aeh P (a::l) (b::m)
theorem aeh.adu {α β:Type} {P:α->β->Prop}: ∀ {a b:List α} {m:List β},aeh P (a++b) m-> ∃ x y,m=x++y/\aeh P a x/\aeh P b y
 | [],b,m,h=>⟨[],m,rfl, .nil,h⟩
 | c::a,b,m,h=>by
   cases h with
   | cons h1 h2=>
     obtain⟨x,y,e,p,q⟩:=aeh.adu h2;subst e;exact⟨_::x,y,rfl, .cons h1 p,q⟩
theorem Hi: ∀ {l:List Sg} {cs ds:List (DC T)} {vs vs':List (DV T)} {cs':List (DC T)} {us us':List (DV T)},K4 l cs=some (vs,ds)->aeh WkV vs vs'->F7 l (vs'++us)=some (cs',us')->
 us'=us/\Er (As cs) (As cs'++As ds)/\Cf cs'
 | [],cs,ds,vs,vs',cs',us,us',h,hw,hi=>by
   simp only [K4,injEq,Prod.mk.injEq]at h;obtain⟨rfl,rfl⟩:=h;cases hw
   simp only [F7,nil_append,injEq,Prod.mk.injEq]at hi;obtain⟨rfl,rfl⟩:=hi;exact⟨rfl,by grind [As,Er.refl],by simp [Cf]⟩
 | .c x::r,c::cs,ds,vs,vs',cs',us,us',h,hw,hi=>by
   simp only [K4]at h;split at h
   ·rename_i ho;simp only [F7]at hi;split at hi
    ·rename_i cs1 us1 h1;simp only [injEq,Prod.mk.injEq]at hi;obtain⟨rfl,rfl⟩:=hi;obtain⟨a,b,d⟩:=Hi h hw h1;refine⟨a,?_,by simp_all [Cf,DC.ok]⟩;simp only [As,cons_append,DC.toC];exact⟨Aaj ho,b⟩
    ·cases hi
   ·cases h
 | .v (.k kd)::r,c::cs,ds,vs,vs',cs',us,us',h,hw,hi=>by
   simp only [K4]at h;split at h
   ·rename_i vs1 ds1 h1;simp only [injEq,Prod.mk.injEq]at h;obtain⟨rfl,rfl⟩:=h;cases hw with
    | cons p q=>
      rename_i b m;rcases p with ⟨c0,c',e1,e2,e3,e4⟩ | ⟨_,_,e1,_⟩
      ·injection e1 with e1;subst e1 e2;simp only [cons_append,F7]at hi;split at hi
       ·rename_i cs1 us1 h2;simp only [injEq,Prod.mk.injEq]at hi;obtain⟨rfl,rfl⟩:=hi;obtain⟨a,b,d⟩:=Hi h1 q h2;refine⟨a,?_,by grind [Cf]⟩;simp only [As,cons_append];exact⟨dw.ae5 e3,b⟩
       ·cases hi
      ·cases e1
   ·cases h
 | .v (.s E)::r,cs,ds,vs,vs',cs',us,us',h,hw,hi=>by
   simp only [K4]at h;split at h
   ·rename_i vs1 ds1 hb h1;simp only [injEq,Prod.mk.injEq]at h;obtain⟨rfl,rfl⟩:=h;cases hw with
    | cons p q=>
      rename_i b m;rcases p with ⟨_,_,e1,_⟩ | ⟨c0,c',e1,e2,e3,e4⟩
      ·cases e1
      ·injection e1 with e1;subst e1 e2;simp only [cons_append,F7]at hi;split at hi
       ·rename_i cs1 us1 h2;simp only [injEq,Prod.mk.injEq]at hi;obtain⟨rfl,rfl⟩:=hi;obtain⟨a,b,d⟩:=Hi h1 q h2;refine⟨a,?_,Db e4 d⟩;have e:As cs=As (cs.take (T.sz E))++As (cs.drop (T.sz E)):=by rw [<-CK,List.take_append_drop]
        rw [e,CK,append_assoc];exact(Er.ae5 e3).append b
       ·cases hi
   ·cases h
 | .c _::_,[],_,_,_,_,_,_,h,_,_=>by simp [K4]at h
 | .v (.k _)::_,[],_,_,_,_,_,_,h,_,_=>by simp [K4]at h
 | .v (.f _)::_,_,_,_,_,_,_,_,h,_,_=>by simp [K4]at h
def Adq:VSp->DV T->Option (List (DV T))
 | .c s, .c x=>match K4 [s] [x]with
   | some (vs,[])=>some vs
   | _=>none
 | .agg l, .agg cs=>match K4 l cs with
   | some (vs,[])=>some vs
   | _=>none
 | _,_=>none
def uj:VSp->List (DV T)->Option (DV T×List (DV T))
 | .c s,vs=>match F7 [s] vs with
   | some ([c],us)=>some (.c c,us)
   | _=>none
 | .agg l,vs=>match F7 l vs with
   | some (cs,us)=>some (.agg cs,us)
   | none=>none
theorem uk {p:VSp} {v:DV T} {vs vs' us us':List (DV T)} {v':DV T} (h:Adq p v=some vs) (hw:aeh WkV vs vs') (hi:uj p (vs'++us)=some (v',us')):us'=us/\al v.toV v'.toV:=by
 unfold Adq at h;split at h
 ·rename_i s x;split at h
  ·rename_i vs1 h1;injection h with h;subst h;simp only [uj]at hi;split at hi
   ·rename_i c us1 h2;simp only [injEq,Prod.mk.injEq]at hi;obtain⟨rfl,rfl⟩:=hi;obtain⟨a,b,d⟩:=Hi h1 hw h2;refine⟨a,?_⟩;simp only [As,append_nil,Er,and_true]at b;intro w G u hr;simp only [DV.toV,Ae]at hr ⊢;exact b _ _ _ hr
   ·cases hi
  ·cases h
 ·rename_i l cs;split at h
  ·rename_i vs1 h1;injection h with h;subst h;simp only [uj]at hi;split at hi
   ·rename_i c us1 h2;simp only [injEq,Prod.mk.injEq]at hi;obtain⟨rfl,rfl⟩:=hi;obtain⟨a,b,d⟩:=Hi h1 hw h2;refine⟨a,?_⟩;simp only [As,append_nil]at b;intro w G u hr;simp only [DV.toV,Ae]at hr ⊢;obtain⟨arr,e,hr⟩:=hr;exact⟨arr,e,hr.imp b⟩
   ·cases hi
  ·cases h
 ·cases h
def ul (v:DV T):Prop:= ∀ (H:Aw T) (n:Nat),v.ok H n
theorem L6: ∀ {l:List Sg} {vs us:List (DV T)} {cs:List (DC T)},(∀ v∈vs,ul v)->F7 l vs=some (cs,us)->Cf cs/\ ∀ v∈us,ul v
 | [],vs,us,cs,hv,h=>by simp only [F7,injEq,Prod.mk.injEq]at h;obtain⟨rfl,rfl⟩:=h;grind [Cf]
 | .c x::r,vs,us,cs,hv,h=>by
   simp only [F7]at h;split at h
   ·rename_i cs1 us1 h1;simp only [injEq,Prod.mk.injEq]at h;obtain⟨rfl,rfl⟩:=h;obtain⟨a,b⟩:=L6 hv h1;simp_all [Cf,DC.ok]
   ·cases h
 | .v t::r,vs,us,cs,hv,h=>by
   match vs,hv,h with
   | .c y::vs,hv,h=>
     simp only [F7]at h;split at h
     ·rename_i cs1 us1 h1;simp only [injEq,Prod.mk.injEq]at h;obtain⟨rfl,rfl⟩:=h;obtain⟨a,b⟩:=L6 (fun v hm=>hv v (by simp [hm])) h1;have:=hv (.c y) (by simp) ⟨fun _=> .u,fun _=>⟨[],0, .box []⟩⟩ 0;simp only [DV.ok]at this;exact⟨by simp only [Cf];exact⟨this,a⟩,b⟩
     ·cases h
   | .agg ds::vs,hv,h=>
     simp only [F7]at h;split at h
     ·rename_i cs1 us1 h1;simp only [injEq,Prod.mk.injEq]at h;obtain⟨rfl,rfl⟩:=h;obtain⟨a,b⟩:=L6 (fun v hm=>hv v (by simp [hm])) h1;have:=hv (.agg ds) (by simp) ⟨fun _=> .u,fun _=>⟨[],0, .box []⟩⟩ 0;simp only [DV.ok]at this;exact⟨Db this a,b⟩
     ·cases h
   | [],_,h=>simp [F7]at h
   | .tup _::_,_,h=>simp [F7]at h
   | .g _ _::_,_,h=>simp [F7]at h
   | .u ::_,_,h=>simp [F7]at h
theorem Aal {p:VSp} {vs us:List (DV T)} {v:DV T} (hv: ∀ v∈vs,ul v) (h:uj p vs=some (v,us)):ul v/\ ∀ v∈us,ul v:=by
 unfold uj at h;split at h
 ·split at h
  ·rename_i c us1 h1;simp only [injEq,Prod.mk.injEq]at h;obtain⟨rfl,rfl⟩:=h;obtain⟨a,b⟩:=L6 hv h1;simp only [Cf,and_true]at a;exact⟨fun H n=>by simp only [DV.ok];exact a,b⟩
  ·cases h
 ·split at h
  ·rename_i c us1 h1;simp only [injEq,Prod.mk.injEq]at h;obtain⟨rfl,rfl⟩:=h;obtain⟨a,b⟩:=L6 hv h1;exact⟨fun H n=>by simp only [DV.ok];exact a,b⟩
  ·cases h
end Go.PL
namespace Go.PL
open Go Go.RowKit
variable {T:Bj}
def iY (kd:Kd) (v:DV T):Option (PT T.den kd):=match asC v with
 | some x=>IW true kd x
 | none=>none
def iZ (E:Nat) (v:DV T):Option (T.den E):=match asA v with
 | some cs=>vx true E cs
 | none=>none
def am:(t:VT)->DV T->Option (Eo T t)
 | .k kd,v=>iY kd v
 | .s E,v=>iZ E v
 | .f _,_=>none
theorem i6 {kd:Kd} {v:DV T} {x:PT T.den kd} (h:iY kd v=some x):WkV v (.c (.k kd x)):=by
 unfold iY at h;split at h
 ·rename_i y hy;exact .inl ⟨y,_,Z5 hy,rfl,(CR h).1,by simp only [DC.ok]⟩
 ·cases h
theorem i7 {E:Nat} {v:DV T} {x:T.den E} (h:iZ E v=some x):WkV v (.agg (iN E x)):=by
 unfold iZ at h;split at h
 ·rename_i y hy;exact .inr ⟨y,_,Z6 hy,rfl,by grind [Gx,Ie],MT E x⟩
 ·cases h
theorem WT {t:VT} {v:DV T} {x:Eo T t} (h:am t v=some x):WkV v (Qz t x):=by
 cases t with
 | k kd=>exact i6 h
 | s E=>exact i7 h
 | f g=>cases h
def se {α β:Type}:Option α->Option β->Option (α×β)
 | some x,some y=>some (x,y)
 | _,_=>none
theorem pQ {α β:Type} {a:Option α} {b:Option β} {x:α×β} (h:se a b=some x):a=some x.1/\b=some x.2:=by
 cases a<;>cases b<;>simp [se]at h
 grind
def i8:(ts:List VT)->List (DV T)->Option (RT T ts)
 | [],[]=>some ()
 | [t],[v]=>am t v
 | t::u::ts,v::vs=>se (am t v) (i8 (u::ts) vs)
 | _,_=>none
theorem WU: ∀ {ts:List VT} {vs:List (DV T)} {x:RT T ts},i8 ts vs=some x->aeh WkV vs (CB ts x)
 | [],[],x,_=> .nil
 | [],_::_,x,h=>by cases (show (none:Option (RT T []))=some x from h)
 | [t],[v],x,h=> .cons (WT (show am t v=some x from h)) .nil
 | [t],[],x,h=>by cases (show (none:Option (RT T [t]))=some x from h)
 | [t],v::w::vs,x,h=>by cases (show (none:Option (RT T [t]))=some x from h)
 | t::u::ts,[],x,h=>by cases (show (none:Option (RT T (t::u::ts)))=some x from h)
 | t::u::ts,v::vs,x,h=>by obtain⟨h1,h2⟩:=pQ (show se (am t v) (i8 (u::ts) vs)=some x from h);exact .cons (WT h1) (WU h2)
theorem Es (ts:List VT) (x:RT T ts): ∀ v∈CB ts x,ul v:=fun v hv H n=>OI.1 (U5 (H:=H) (nx:=n) ts x) v hv
def OX (tm:Tm T):List (Nat×VSp)->Option (List (DV T))
 | []=>some []
 | (s,p)::r=>match Adq p (lk tm s),OX tm r with
   | some a,some b=>some (a++b)
   | _,_=>none
def Il:List (Nat×VSp)->List (DV T)->Ai T->Option (Ai T×List (DV T))
 | [],vs,st=>some (st,vs)
 | (s,p)::r,vs,st=>match uj p vs with
   | some (v,us)=>Il r us (st.put (some s) v)
   | none=>none
theorem K5 {H:Aw T} {st0:Ai T}: ∀ {l:List (Nat×VSp)} {vs us:List (DV T)} {st a_:Ai T} {H1:Aw T},Nx H st0 H1 st->(∀ v∈vs,ul v)->Il l vs st=some (a_,us)->
 (∃ H',Nx H st0 H' a_)/\(∀ v∈us,ul v)/\a_.so=st.so/\a_.gh=st.gh/\a_.pre=st.pre/\a_.m=st.m
 | [],vs,us,st,a_,H1,hn,hv,h=>by simp only [Il,injEq,Prod.mk.injEq]at h;grind
 | (s,p)::r,vs,us,st,a_,H1,hn,hv,h=>by
   simp only [Il]at h;split at h
   ·rename_i v us1 h1;obtain⟨a,b⟩:=Aal hv h1;obtain⟨H2,h2⟩:=Ai.R_ hn (some s) (a H1 _);obtain⟨c1,c2,c3,c4,c5,c6⟩:=K5 h2 b h;exact⟨c1,c2,c3,c4,c5,c6⟩
   ·cases h
theorem w4 (st:Ai T) (s i:Nat) (v:DV T):lk (st.put (some s) v).tm i=if s=i then v else lk st.tm i:=by
 simp only [Ai.put,lk];by_cases h:s=i
 ·simp_all
 ·rw [if_neg h];grind [eq_of_beq_eq_true]
theorem fS {tm:Tm T}: ∀ {l:List (Nat×VSp)} {vs vs' us us':List (DV T)} {st a_:Ai T},OX tm l=some vs->aeh WkV vs vs'->Il l (vs'++us) st=some (a_,us')->(∀ i,al (lk tm i).toV (lk st.tm i).toV)->
 us'=us/\ ∀ i,al (lk tm i).toV (lk a_.tm i).toV
 | [],vs,vs',us,us',st,a_,h,hw,hi,hs=>by
   simp only [OX,injEq]at h;subst h;cases hw
   simp only [Il,nil_append,injEq,Prod.mk.injEq]at hi;grind
 | (s,p)::r,vs,vs',us,us',st,a_,h,hw,hi,hs=>by
   simp only [OX]at h;split at h
   ·rename_i a b h1 h2;injection h with h;subst h;obtain⟨x,y,rfl,k1,k2⟩:=aeh.adu hw;simp only [Il]at hi;split at hi
    ·rename_i v us1 h3;rw [append_assoc]at h3;obtain⟨e,hv⟩:=uk h1 k1 h3;subst e;refine fS h2 k2 hi fun i=>?_;rw [w4];split
     ·rename_i e;subst e;exact hv
     ·exact hs i
    ·cases hi
   ·cases h
def Adr (l:List (DE T)) (id:Ak) (p:ESp):Option (List (DV T)):=match G6 l id,p with
 | some e, .box sg=>match e.x with
   | .box cs=>match rR cs,K4 sg cs with
     | false,some (vs,[])=>some vs
     | _,_=>none
   | _=>none
 | some e, .row E0=>match e.x with
   | .row E l=>match Nat.beq E E0 with
     | true=>some [.c (.k (.u_ E) l)]
     | false=>none
   | _=>none
 | some e, .deep E0=>match e.x with
   | .deep E n l none=>match Nat.beq E E0 with
     | true=>some [.c (.k (.int .i64) n), .c (.k (.u_ E) l)]
     | false=>none
   | _=>none
 | none,_=>none
def pR:ESp->List (DV T)->Option (DX T×List (DV T))
 | .box sg,vs=>match F7 sg vs with
   | some (cs,us)=>some (.box cs,us)
   | none=>none
 | .row E0, .c (.k (.u_ E) l)::vs=>match Nat.beq E E0 with
   | true=>some (.row E l,vs)
   | false=>none
 | .deep E0, .c (.k (.int .i64) n):: .c (.k (.u_ E) l)::vs=>match Nat.beq E E0 with
   | true=>some (.deep E n l none,vs)
   | false=>none
 | _,_=>none
def dnC (T:Bj):Kd->C->C
 | .u_ F, .sl n cs=> .isl F (T.sz F) n cs
 | _,c=>c
def Ads (T:Bj):List Kd->List C->List C
 | k::ks,c::cs=>dnC T k c::Ads T ks cs
 | _,_=>[]
theorem ao: ∀ (ks:List Kd) (y:DK T.den ks),BQ T ks y=Ads T ks (BD T.enc ks y)
 | [],_=>rfl
 | k::ks,y=>by simp only [BQ,BD,Ads];rw [ao ks y.2];cases k<;>rfl
theorem Aam {E:Nat} {x y:T.den E} (h:T.enc E x=T.enc E y):T.aa2 E x=T.aa2 E y:=by unfold Bj.aa2;rw [ao,ao,T.aa0,T.aa0,h]
theorem fT {E:Nat} {n:Int}: ∀ {l m:List (T.den E)} {k:Int},l.length=m.length->l.flatMap (T.enc E)=m.flatMap (T.enc E)->AC T E n k l=AC T E n k m
 | [],[],_,_,_=>rfl
 | [],_::_,_,h,_=>by simp at h
 | _::_,[],_,h,_=>by simp at h
 | x::l,y::m,k,h,q=>by simp only [flatMap_cons]at q;obtain⟨q1,q2⟩:=List.append_inj q (by rw [AV,AV]);simp only [AC];rw [q1,Aam q1,fT (by simpa using h) q2]
def SB (l:List (DE T)):List (Ak×ESp)->Option (List (DV T))
 | []=>some []
 | (id,p)::r=>match Adr l id p,SB l r with
   | some a,some b=>some (a++b)
   | _,_=>none
def Ai.arn (st:Ai T) (id:Ak) (x:DX T):Ai T:={st with so:=⟨id,st.nx,x⟩::st.so,nx:=st.nx+1}
def mg (id:Ak):List (DE T)->Bool
 | []=>false
 | e::r=>match Bi e.id id with
   | true=>true
   | false=>mg id r
theorem aq {id:Ak}: ∀ {l:List (DE T)},mg id l=false-> ∀ e∈l,e.id ≠ id
 | [],_,_,h=>by cases h
 | a::r,h,e,he=>by
   unfold mg at h;split at h
   ·cases h
   ·rename_i hb;rcases mem_cons.1 he with rfl | he
    ·intro q;rw [AP.2 q]at hb;cases hb
    ·exact aq h e he
def Ja:List (Ak×ESp)->List (DV T)->Ai T->Option (Ai T×List (DV T))
 | [],vs,st=>some (st,vs)
 | (id,p)::r,vs,st=>match pR p vs,mg id st.so with
   | some (x,us),false=>Ja r us (st.arn id x)
   | _,_=>none
theorem Aan {p:ESp} {vs us:List (DV T)} {x:DX T} (hv: ∀ v∈vs,ul v) (h:pR p vs=some (x,us)):x.ok/\ ∀ v∈us,ul v:=by
 unfold pR at h;split at h
 ·split at h
  ·rename_i cs us1 h1;simp only [injEq,Prod.mk.injEq]at h;obtain⟨rfl,rfl⟩:=h;exact L6 hv h1
  ·cases h
 ·split at h
  ·simp only [injEq,Prod.mk.injEq]at h;obtain⟨rfl,rfl⟩:=h;exact⟨trivial,(by grind)⟩
  ·cases h
 ·split at h
  ·simp only [injEq,Prod.mk.injEq]at h;obtain⟨rfl,rfl⟩:=h;exact⟨trivial,(by grind)⟩
  ·cases h
 ·cases h
theorem Aao {H H1:Aw T} {st0 st:Ai T} (hn:Nx H st0 H1 st) {id:Ak} {x:DX T} (hx:x.ok) (hid:mg id st.so=false): ∃ H',Nx H st0 H' (st.arn id x):=by
 have he:=C2.X_ H1 st.nx ⟨id,st.nx,x⟩;refine⟨H1.X_ st.nx ⟨id,st.nx,x⟩,hn.trans ⟨he,le_succ _,?_,?_,?_,?_⟩⟩
 ·exact BW he (le_succ _) hn.ok.tm
 ·exact fun f hf=>BW he (le_succ _) (hn.ok.gh f hf)
 ·intro e hm;rcases mem_cons.1 hm with rfl | hm
  ·exact⟨Nat.lt_succ_self _,by simp [Aw.X_],hx⟩
  ·exact Fo he (le_succ _) hn.ok.so e hm
 ·simp only [Ai.arn,map_cons];refine nodup_cons.2 ⟨fun hm=>?_,hn.ok.nd⟩;grind [aq]
theorem MY {H:Aw T} {st0:Ai T}: ∀ {l:List (Ak×ESp)} {vs us:List (DV T)} {st a_:Ai T} {H1:Aw T},Nx H st0 H1 st->(∀ v∈vs,ul v)->Ja l vs st=some (a_,us)->
 (∃ H',Nx H st0 H' a_)/\a_.tm=st.tm/\a_.gh=st.gh/\a_.pre=st.pre/\a_.m=st.m
 | [],vs,us,st,a_,H1,hn,hv,h=>by simp only [Ja,injEq,Prod.mk.injEq]at h;grind
 | (id,p)::r,vs,us,st,a_,H1,hn,hv,h=>by
   simp only [Ja]at h;split at h
   ·rename_i x us1 h1 h2;obtain⟨a,b⟩:=Aan hv h1;obtain⟨H2,h3⟩:=Aao hn a h2;obtain⟨c1,c2,c3,c4,c5⟩:=MY h3 b h;exact⟨c1,c2,c3,c4,c5⟩
   ·cases h
def Aap (l:List (DE T)) (e':DE T):Prop:=e'.toE∈l.map DE.toE\/ ∃ cs cs',(⟨e'.id,none,cs,false⟩:Ax)∈l.map DE.toE/\e'.toE=⟨e'.id,none,cs',false⟩/\Er cs cs'/\ic cs=false
theorem um {l:List (DE T)} {id:Ak} {p:ESp} {vs vs' us us':List (DV T)} {x:DX T} (h:Adr l id p=some vs) (hw:aeh WkV vs vs') (hi:pR p (vs'++us)=some (x,us')) (t:Nat):us'=us/\Aap l ⟨id,t,x⟩:=by
 unfold Adr at h;split at h
 ·rename_i e sg he;obtain⟨m1,m2,_⟩:=CT he;split at h
  ·rename_i cs hx;split at h
   ·rename_i vs1 hm h1;injection h with h;subst h;simp only [pR]at hi;split at hi
    ·rename_i cs' us1 h2;simp only [injEq,Prod.mk.injEq]at hi;obtain⟨rfl,rfl⟩:=hi;obtain⟨a,b,d⟩:=Hi h1 hw h2;simp only [As,append_nil]at b;refine⟨a, .inr ⟨As cs,As cs',(by grind [DE.toE_box]),rfl,b,(by grind [fw,wq])⟩⟩
    ·cases hi
   ·cases h
  ·cases h
 ·rename_i e E0 he;obtain⟨m1,m2,_⟩:=CT he;split at h
  ·rename_i E l' hx;split at h
   ·rename_i hE;have hE:=eq_of_beq_eq_true hE;subst hE;injection h with h;subst h;cases hw with
    | cons k1 k2=>
      cases k2
      rcases k1 with ⟨c,c',e1,e2,e3,e4⟩ | ⟨_,_,e1,_⟩
      ·injection e1 with e1;subst e1 e2;simp only [cons_append,nil_append]at hi;unfold pR at hi;split at hi
       ·grind
       ·rename_i E0 E' l'' vs0 q1 q2;injection q1 with q1;subst q1;injection q2 with q2 q3;injection q2 with q2;subst q2 q3;split at hi
        ·rename_i hE;have hE:=eq_of_beq_eq_true hE;subst hE;simp only [injEq,Prod.mk.injEq]at hi;obtain⟨rfl,rfl⟩:=hi;refine⟨rfl, .inl (mem_map.2 ⟨e,m1,?_⟩)⟩;grind [DC.toC,Bz,G5,DE.toE]
        ·cases hi
       all_goals grind
      ·cases e1
   ·cases h
  ·cases h
 ·rename_i e E0 he;obtain⟨m1,m2,_⟩:=CT he;split at h
  ·rename_i E n l' hx;split at h
   ·rename_i hE;have hE:=eq_of_beq_eq_true hE;subst hE;injection h with h;subst h;cases hw with
    | cons k1 k2=>
      cases k2 with
      | cons k3 k4=>
        cases k4
        rcases k1 with ⟨c,c',e1,e2,e3,e4⟩ | ⟨_,_,e1,_⟩
        ·rcases k3 with ⟨d,d',f1,f2,f3,f4⟩ | ⟨_,_,f1,_⟩
         ·injection e1 with e1;injection f1 with f1;subst e1 e2 f1 f2;simp only [cons_append,nil_append]at hi;unfold pR at hi;split at hi
          ·grind
          ·grind
          ·rename_i E1 n' E2 l'' vs0 q1 q2;injection q1 with q1;subst q1;injection q2 with q2 q3;injection q2 with q2;injection q3 with q3 q4;injection q3 with q3;subst q2 q3 q4;split at hi
           ·rename_i hE;have hE:=eq_of_beq_eq_true hE;subst hE;simp only [injEq,Prod.mk.injEq]at hi;obtain⟨rfl,rfl⟩:=hi;refine⟨rfl, .inl (mem_map.2 ⟨e,m1,?_⟩)⟩;grind [DC.toC,Bz,G5,DE.toE,Bk,fT]
           ·cases hi
          ·cases hi
         ·cases f1
        ·cases e1
   ·cases h
  ·cases h
 ·cases h
end Go.PL
namespace Go.PL
open Go Go.RowKit
variable {T:Bj}
theorem mh {L:List (DE T)}: ∀ {l:List (Ak×ESp)} {vs vs' us us':List (DV T)} {st a_:Ai T},SB L l=some vs->aeh WkV vs vs'->Ja l (vs'++us) st=some (a_,us')->(∀ e∈st.so,Aap L e)->
 us'=us/\ ∀ e∈a_.so,Aap L e
 | [],vs,vs',us,us',st,a_,h,hw,hi,hs=>by
   simp only [SB,injEq]at h;subst h;cases hw
   simp only [Ja,nil_append,injEq,Prod.mk.injEq]at hi;grind
 | (id,p)::r,vs,vs',us,us',st,a_,h,hw,hi,hs=>by
   simp only [SB]at h;split at h
   ·rename_i a b h1 h2;injection h with h;subst h;obtain⟨x,y,rfl,k1,k2⟩:=aeh.adu hw;simp only [Ja]at hi;split at hi
    ·rename_i v us1 h3 h4;rw [append_assoc]at h3;obtain⟨e,hv⟩:=um h1 k1 h3 st.nx;subst e;refine mh h2 k2 hi fun e he=>?_;rcases mem_cons.1 he with rfl | he
     all_goals grind
    ·cases hi
   ·cases h
def Hj (ks:List Nat):Tm T->Tm T
 | []=>[]
 | (s,t,v)::r=>match J0 ks s with
   | true=>(s,t,v)::Hj ks r
   | false=>Hj ks r
def Rj:List Ak->Ak->Bool
 | [],_=>false
 | a::l,b=>match Bi a b with
   | true=>true
   | false=>Rj l b
def Rk (ke:List Ak):List (DE T)->List (DE T)
 | []=>[]
 | e::r=>match Rj ke e.id with
   | true=>e::Rk ke r
   | false=>Rk ke r
theorem MZ {ks:List Nat}: ∀ {tm:Tm T} {x:Nat×Nat×DV T},x∈Hj ks tm->x∈tm
 | [],_,h=>h
 | (s,t,v)::r,x,h=>by
   unfold Hj at h;split at h
   ·rcases mem_cons.1 h with rfl | h
    ·simp
    ·simp [MZ h]
   ·simp [MZ h]
theorem PW {ks:List Nat} (i:Nat): ∀ tm:Tm T,lk (Hj ks tm) i=(match J0 ks i with | true=>lk tm i | false=> .u)
 | []=>by cases J0 ks i<;>rfl
 | (s,t,v)::r=>by
   have ih:=PW (ks:=ks) i r;unfold Hj;cases hs:J0 ks s with
   | true=>
     simp only [lk];cases hb:Nat.beq s i with
     | true=>
       have:=eq_of_beq_eq_true hb;subst this;rw [hs]
     | false=>exact ih
   | false=>
     simp only;rw [ih];cases hi:J0 ks i with
     | true=>
       simp only [lk];cases hb:Nat.beq s i with
       | true=>
         have:=eq_of_beq_eq_true hb;subst this;rw [hs]at hi;cases hi
       | false=>rfl
     | false=>rfl
theorem Rl {b:Ak}: ∀ {l:List Ak},Rj l b=true↔b∈l
 | []=>by simp [Rj]
 | a::l=>by
   unfold Rj;cases h:Bi a b with
   | true=>have:=AP.1 h;subst this;simp
   | false=>
     have:b ≠ a:=fun e=>by rw [AP.2 e.symm]at h;cases h
     simp [Rl (l:=l),this]
theorem Hk (ke:List Ak): ∀ l:List (DE T),(Rk ke l).Sublist l/\ ∀ e∈Rk ke l,e.id∈ke
 | []=>⟨List.Sublist.slnil,fun _ h=>by cases h⟩
 | e::r=>by
   obtain⟨a,b⟩:=Hk ke r;unfold Rk;split
   ·rename_i h;refine⟨a.cons_cons _,fun x hx=>?_⟩;rcases mem_cons.1 hx with rfl | hx
    all_goals grind [Rl]
   grind
def IF.base (sh:IF) (st:Ai T):Ai T:={st with tm:=Hj sh.ks st.tm,so:=Rk sh.ke st.so}
theorem IF.afB {H:Aw T} (sh:IF) {st:Ai T} (h:AJ H st):Nx H st H (sh.base st):=
 ⟨C2.refl _ _,le_refl _,fun s t v hm=>h.tm s t v (MZ hm),h.gh,fun e he=>h.so e ((Hk _ _).1.subset he),List.Sublist.nodup ((Hk _ _).1.map _) h.nd⟩
def IF.inst (sh:IF) (st:Ai T) (vs:List (DV T)):Option (Ai T):=match Il sh.vs vs (sh.base st)with
 | some (s,us)=>match Ja sh.es us s with
   | some (s',_)=>some s'
   | none=>none
 | none=>none
theorem IF.aeq {H:Aw T} {sh:IF} {st s':Ai T} (h:AJ H st) {vs:List (DV T)} (hv: ∀ v∈vs,ul v) (hi:sh.inst st vs=some s'): ∃ H',Nx H st H' s':=by
 unfold IF.inst at hi;split at hi
 ·rename_i s us h1;split at hi
  ·rename_i s2 us2 h2;injection hi with hi;subst hi;obtain⟨⟨H1,a⟩,b,_⟩:=K5 (sh.afB h) hv h1;exact(MY a b h2).1
  ·cases hi
 ·cases hi
def sf (ks:List Nat) (tm tm0:Tm T):Bool:=match ks with
 | []=>true
 | s::r=>match Nat.beq (Zv tm s) (Zv tm0 s)with
   | true=>sf r tm tm0
   | false=>false
def si (ke:List Ak) (l l0:List (DE T)):Bool:=match ke with
 | []=>true
 | i::r=>match G6 l i,G6 l0 i with
   | some a,some b=>match Nat.beq a.tag b.tag with
     | true=>si r l l0
     | false=>false
   | _,_=>false
def up:Tm T->Tm T->Bool
 | [],[]=>true
 | (s,t,_)::r,(s',t',_)::r'=>match Nat.beq s s'&&Nat.beq t t' with
   | true=>up r r'
   | false=>false
 | _,_=>false
def uq:List (Nat×Tm T)->List (Nat×Tm T)->Bool
 | [],[]=>true
 | (m,tm)::r,(m',tm')::r'=>match Nat.beq m m'&&up tm tm' with
   | true=>uq r r'
   | false=>false
 | _,_=>false
theorem aw: ∀ {ks:List Nat} {tm tm0:Tm T},sf ks tm tm0=true-> ∀ s,J0 ks s=true->Zv tm s=Zv tm0 s
 | [],_,_,_,s,hs=>by simp [J0]at hs
 | a::r,tm,tm0,h,s,hs=>by
   unfold sf at h;split at h
   ·rename_i hb;rw [Fl]at hs;rcases mem_cons.1 hs with rfl | hs
    ·exact eq_of_beq_eq_true hb
    ·exact aw h s (Fl.2 hs)
   ·cases h
theorem ax: ∀ {ke:List Ak} {l l0:List (DE T)},si ke l l0=true-> ∀ i∈ke, ∃ a b,G6 l i=some a/\G6 l0 i=some b/\a.tag=b.tag
 | [],_,_,_,i,hi=>by cases hi
 | k::r,l,l0,h,i,hi=>by
   unfold si at h;split at h
   ·rename_i a b h1 h2;split at h
    ·rename_i hb;rcases mem_cons.1 hi with rfl | hi
     ·simp_all
     ·exact ax h i hi
    ·cases h
   ·cases h
theorem fU {H H':Aw T} {n n':Nat} (he:C2 n H H'): ∀ {tm tm':Tm T},up tm' tm=true->Q5 H n tm->Q5 H' n' tm'->tm'=tm
 | [],[],_,_,_=>rfl
 | [],_::_,h,_,_=>by simp [up]at h
 | _::_,[],h,_,_=>by simp [up]at h
 | (s,t,v)::r,(s',t',v')::r',h,a,b=>by
   unfold up at h;split at h
   ·rename_i hb;simp only [and_eq_true,beq_eq]at hb;obtain⟨rfl,rfl⟩:=hb;obtain⟨a1,a2,_⟩:=a s' t' v (by simp);obtain⟨_,b2,_⟩:=b s' t' v' (by simp);have:v'=v:=by rw [<-a2, <-b2,(he t' a1).1]
    subst this;rw [fU he h (fun s t v hm=>a s t v (by simp [hm])) (fun s t v hm=>b s t v (by simp [hm]))]
   ·cases h
theorem fV {H H':Aw T} {n n':Nat} (he:C2 n H H'): ∀ {l l':List (Nat×Tm T)},uq l' l=true->(∀ f∈l,Q5 H n f.2)->(∀ f∈l',Q5 H' n' f.2)->l'=l
 | [],[],_,_,_=>rfl
 | [],_::_,h,_,_=>by simp [uq]at h
 | _::_,[],h,_,_=>by simp [uq]at h
 | (m,tm)::r,(m',tm')::r',h,a,b=>by
   unfold uq at h;split at h
   ·rename_i hb;simp only [and_eq_true,beq_eq]at hb;obtain⟨rfl,hb⟩:=hb;rw [fU he hb (by simp_all) (b (m',tm') (by simp)),fV he h (by grind) (fun f hm=>b f (by simp [hm]))]
   ·cases h
def FL:List Ak->Ai T->Ai T
 | [],st=>st
 | i::r,st=>match st.frz i with
   | some s=>FL r s
   | none=>FL r st
theorem F8 {H0:Aw T} {st0:Ai T}: ∀ {l:List Ak} {st:Ai T} {H:Aw T},Nx H0 st0 H st->(∃ H',Nx H0 st0 H' (FL l st))/\Wk st.toSt (FL l st).toSt
 | [],st,H,h=>⟨⟨H,h⟩,Wk.less (Cn.refl _)⟩
 | i::r,st,H,h=>by
   unfold FL;split
   ·rename_i s hs;obtain⟨⟨H1,a⟩,b,_⟩:=Ai.afA h.ok hs;obtain⟨c,d⟩:=F8 (l:=r) (h.trans a);grind [Wk.trans,Wk.frz]
   ·exact F8 (l:=r) h
def Aco:List (Ak×ESp)->List Ak
 | []=>[]
 | (i,_)::r=>i::Aco r
def w5 (tm:Tm T):List (Nat×VSp)->List Ak
 | []=>[]
 | (s,_)::r=>sd (lk tm s)++w5 tm r
def ja (l:List (DE T)):List (Ak×ESp)->List Ak
 | []=>[]
 | (i,_)::r=>match G6 l i with
   | some e=>match e.x with
     | .box cs=>fP cs++ja l r
     | _=>ja l r
   | none=>ja l r
def w6 (l:List Ak):List Ak->List Ak
 | []=>[]
 | i::r=>match Rj l i with
   | true=>w6 l r
   | false=>i::w6 l r
def IF.frz (sh:IF) (st:Ai T):List Ak:=w6 (sh.ke++Aco sh.es) (w5 st.tm sh.vs++ja st.so sh.es)
def IF.aq5 (sh:IF) (st0 s:Ai T):Option (RT T sh.ts):=
 match sf sh.ks s.tm st0.tm&&(si sh.ke s.so st0.so&&(uq s.gh st0.gh&&(Nat.beq s.m st0.m&&Bi s.pre st0.pre)))with
 | true=>match OX s.tm sh.vs,SB s.so sh.es with
   | some a,some b=>i8 sh.ts (a++b)
   | _,_=>none
 | false=>none
def IF.gen (sh:IF) (st0 a_:Ai T):Option (RT T sh.ts):=sh.aq5 st0 (FL (sh.frz a_) a_)
theorem jb {l:List (DE T)} (hn:(l.map DE.id).Nodup): ∀ {e:DE T},e∈l->G6 l e.id=some e:=by
 induction l with
 | nil=>grind
 | cons a r ih=>
   intro e h;rw [map_cons]at hn;obtain⟨n1,n2⟩:=nodup_cons.1 hn;unfold G6;split
   ·rename_i hb;have hb:=AP.1 hb;grind
   ·rename_i hb;rcases mem_cons.1 h with rfl | h
    ·rw [AP.2 rfl]at hb;cases hb
    grind
theorem IF.aoJ {H H':Aw T} {sh:IF} {st0 s s1:Ai T} (h0:AJ H st0) (hN:Nx H st0 H' s) {x:RT T sh.ts} (hg:sh.aq5 st0 s=some x) (hi:sh.inst st0 (CB sh.ts x)=some s1):Wkn s.toSt s1.toSt:=by
 unfold IF.aq5 at hg;split at hg
 ·rename_i hb;simp only [and_eq_true,beq_eq]at hb;obtain⟨k1,k2,k3,k4,k5⟩:=hb;split at hg
  ·rename_i a b ga gb;have hw:=WU hg;obtain⟨va,vb,hv,wa,wb⟩:=aeh.adu hw;unfold IF.inst at hi;split at hi
   ·rename_i s2 us h1;split at hi
    ·rename_i s3 us2 h2;injection hi with hi;subst hi;rw [hv]at h1;have hpv:=Es sh.ts x;rw [hv]at hpv;obtain⟨⟨H1,n1⟩,n2,n3,n4,n5,n6⟩:=K5 (sh.afB h0) hpv h1;have apI: ∀ i,al (lk s.tm i).toV (lk (sh.base st0).tm i).toV :=by
      intro i;show al (lk s.tm i).toV (lk (Hj sh.ks st0.tm) i).toV;rw [PW];cases hm:J0 sh.ks i with
      | false=>simp only [DV.toV];intro w G u _;simp only [Ae]
      | true=>
        simp only;have ht:=aw k1 i hm;have:lk s.tm i=lk st0.tm i:=by
         rcases Sn st0.tm i with ⟨q1,q2⟩ | ⟨t,q1,q2⟩
         ·grind [Sn]
         ·obtain⟨p1,p2⟩:=Zw h0.tm q2;obtain⟨p3,p4⟩:=Zw hN.ok.tm (ht.trans q2);rw [<-p2, <-p4,(hN.ext t p1).1]
        grind [al.refl]
     obtain⟨e1,hsl⟩:=fS (us:=vb) ga wa h1 apI;subst e1;have hpb: ∀ v∈us,ul v:=n2;obtain⟨⟨H2,m1⟩,m2,m3,m4,m5⟩:=MY n1 hpb h2;have aw5: ∀ e∈s2.so,Aap s.so e:=by
      intro e he;rw [n3]at he;have he:e∈Rk sh.ke st0.so:=he;have hid:=(Hk sh.ke st0.so).2 e he;have ai8:=(Hk sh.ke st0.so).1.subset he;obtain⟨a',b',q1,q2,q3⟩:=ax k2 e.id hid;rw [jb h0.nd ai8]at q2;injection q2 with q2;subst q2;obtain⟨t1,t2,_⟩:=h0.so e ai8;obtain⟨u1,u2,_⟩:=CT q1;obtain⟨v1,v2,_⟩:=hN.ok.so a' u1;have:a'=e:=by rw [<-t2, <-v2,q3,(hN.ext e.tag t1).2]
      subst this;exact .inl (mem_map.2 ⟨a',u1,rfl⟩)
     have h2':Ja sh.es (us++[]) s2=some (s3,us2):=by grind
     obtain⟨_,hen⟩:=mh gb wb h2' aw5;have hgh:=fV hN.ext k3 h0.gh hN.ok.gh;exact {
      len:=by simp only [Ai.toSt,AD,List.length_map,List.length_range];rw [m5,n6,k4];rfl
      tm:=fun i=>by show al ((AD s.m s.tm).getD i .undef) ((AD s3.m s3.tm).getD i .undef);rw [LU,LU,m5,n6,m2];have:(sh.base st0).m =s.m:=k4.symm;grind [al.refl]
      so:=fun e' he'=>by
       obtain⟨d,hd,rfl⟩:=mem_map.1 he';rcases hen d hd with q | ⟨cs,cs',q1,q2,q3,q4⟩
       ·exact .inl q
       ·exact .inr ⟨cs,cs',by rw [DE.toE_id];exact q1,by grind,q3,q4⟩
      nd:=by
       have:=m1.ok.nd;show ((s3.so.map DE.toE).map Ax.id).Nodup;rw [map_map];have e:(Ax.id ∘ DE.toE:DE T->Ak)=DE.id:=by grind [DE.toE_id]
       grind
      gh:=by simp only [Ai.toSt];rw [m3,n4,hgh];rfl
      pre:=by simp only [Ai.toSt];rw [m4,n5,AP.1 k5];rfl}
    ·cases hi
   ·cases hi
  ·cases hg
 ·cases hg
theorem IF.ad4 {H H':Aw T} {sh:IF} {st0 a_ s1:Ai T} (h0:AJ H st0) (hN:Nx H st0 H' a_) {x:RT T sh.ts} (hg:sh.gen st0 a_=some x) (hi:sh.inst st0 (CB sh.ts x)=some s1):Wk a_.toSt s1.toSt:=by obtain⟨⟨H1,a⟩,b⟩:=F8 (l:=sh.frz a_) hN;exact b.trans (Wk.wkn (IF.aoJ h0 a hg hi))
end Go.PL
namespace Go.PL
open Go Go.RowKit
variable {T:Bj}
def Gz:Nat->List (DV T)->Ai T->Ai T
 | _,[],st=>st
 | i,v::vs,st=>Gz (i+1) vs (st.put (some i) v)
theorem Rm {H:Aw T} {st0:Ai T}: ∀ {vs:List (DV T)} {i:Nat} {st:Ai T} {H1:Aw T},Nx H st0 H1 st->CQ H st0.nx vs-> ∃ H',Nx H st0 H' (Gz i vs st)
 | [],_,st,H1,h,_=>⟨H1,h⟩
 | v::vs,i,st,H1,h,hv=>by simp only [CQ]at hv;obtain⟨H2,h2⟩:=Ai.R_ h (some i) (DV.acA h.ext h.le hv.1);show ∃ H',Nx H st0 H' (Gz (i+1) vs (st.put (some i) v));exact Rm h2 hv.2
theorem M0: ∀ (vs:List (DV T)) (i:Nat) (st:Ai T),(Gz i vs st).so =st.so/\(Gz i vs st).gh =st.gh/\(Gz i vs st).pre =st.pre/\(Gz i vs st).m =st.m
 | [],_,_=>⟨rfl,rfl,rfl,rfl⟩
 | v::vs,i,st=>M0 vs (i+1) (st.put (some i) v)
theorem Rn: ∀ (vs:List (DV T)) (i:Nat) (st:Ai T) (j:Nat),lk (Gz i vs st).tm j=if i<=j/\j<i+vs.length then vs.getD (j - i) .u else lk st.tm j
 | [],i,st,j=>by rw [if_neg (by simp)];rfl
 | v::vs,i,st,j=>by rw [Gz,Rn vs (i+1) _ j,w4];grind
def Ai.enter (st:Ai T) (k:Nat) (args:List (DV T)) (n:Nat):Ai T:=Gz 0 args ⟨n,[],st.so,(st.m,st.tm)::st.gh,k::st.pre,st.nx⟩
theorem w7 {H:Aw T} {st:Ai T} (h:AJ H st) (k:Nat) {args:List (DV T)} (n:Nat) (ha:CQ H st.nx args): ∃ H',Nx H st H' (st.enter k args n):=by
 refine Rm (H1:=H) (st:=⟨n,[],st.so,(st.m,st.tm)::st.gh,k::st.pre,st.nx⟩) ⟨C2.refl _ _,le_refl _,⟨fun _ _ _ hm=>by simp at hm,fun f hf=>?_,h.so,h.nd⟩⟩ ha;rcases mem_cons.1 hf with rfl | hf
 ·exact h.tm
 ·exact h.gh f hf
theorem ay {m:Nat} {tm:Tm T} {vs:List (DV T)} (hl:vs.length<=m) (h: ∀ j,lk tm j=if j<vs.length then vs.getD j .u else .u):AD m tm=Bf vs++List.replicate (m - (Bf vs).length) .undef :=by
 rw [Ig];apply List.ext_getElem?;intro i;unfold AD;rw [getElem?_map];by_cases hi:i<vs.length
 ·rw [List.getElem?_range (by omega),List.getElem?_append_left (by rw [Ig];exact hi)];simp_all [OH]
 ·rw [getElem?_append_right (by rw [Ig];omega),Ig,List.getElem?_replicate];by_cases hm:i<m
  all_goals simp_all [DV.toV]
theorem pS {st:Ai T} {k:Nat} {args:List (DV T)} {n:Nat} (hl:args.length<=n):(st.enter k args n).toSt =st.toSt.enter k (Bf args) n:=by obtain⟨a,b,c,d⟩:=M0 args 0 (⟨n,[],st.so,(st.m,st.tm)::st.gh,k::st.pre,st.nx⟩:Ai T);unfold Ai.enter;simp only [Ai.toSt,a,b,c,d,St.enter,flatMap_cons];rw [ay hl];intro j;rw [Rn];simp only [Nat.zero_le,true_and,zero_add,Nat.sub_zero];rfl
def Ai.back (st st0:Ai T) (d:Option Nat) (v:DV T):Option (Ai T):=match st.gh with
 | (m',tm')::g=>match Nat.beq m' st0.m with
   | true=>some (({st with m:=m',tm:=tm',gh:=g,pre:=st0.pre}:Ai T).put d v)
   | false=>none
 | []=>none
theorem Bw (m:Nat) (tm:Tm T):(AD m tm).length =m:=by simp [AD]
theorem ur {H H1:Aw T} {st st0 b:Ai T} {d:Option Nat} {v:DV T} (hN:Nx H st0 H1 st) (hv:v.ok H1 st.nx) (h:st.back st0 d v=some b):(∃ H',Nx H st0 H' b)/\b.toSt=st.toSt.back st0.m st0.pre d v.toV/\b.pre=st0.pre:=by
 unfold Ai.back at h;split at h
 ·rename_i m' tm' g hg;split at h
  ·rename_i hm;have hm:=eq_of_beq_eq_true hm;injection h with h;subst h;have hgh:=hN.ok.gh;rw [hg]at hgh;have n1:Nx H st0 H1 ({st with m:=m',tm:=tm',gh:=g,pre:=st0.pre}:Ai T):=⟨hN.ext,hN.le,(by simp_all),(by grind),hN.ok.so,hN.ok.nd⟩;refine⟨Ai.R_ n1 d hv,?_,by rw [AW]⟩;grind [Ai.k_,Ai.toSt,St.back,Bw]
  ·cases h
 ·cases h
def WV (P:Program) (st:Ai T):ResultVar->M (DV T)
 | .tmp t=> .ret (st.get t)
 | .cell t Ty=>lL P Ty [] st (st.get t)
def pT (P:Program) (st:Ai T):List ResultVar->M (List (DV T))
 | []=> .ret []
 | x::xs=> .Q_ (WV P st x) fun v=> .Q_ (pT P st xs) fun vs=> .ret (v::vs)
def w8 (P:Program) (st:Ai T):List ResultVar->M (DV T)
 | [x]=>WV P st x
 | xs=> .Q_ (pT P st xs) fun vs=> .ret (.tup vs)
section
variable {H:Aw T} {P:Program} {st:Ai T}
theorem Ki (hw:AJ H st) (x:ResultVar):Yl (WV P st x) (fun v=>v.ok H st.nx/\(Qk P st.toSt x).1/\(Qk P st.toSt x).2=v.toV):=by
 cases x with
 | tmp t=>exact Yl.ret ⟨Ai.afZ hw t,trivial,by simp only [Qk];exact st.aa6 t⟩
 | cell t Ty=>
   refine(ZH (key:=[]) hw (fun _=>Ai.afZ hw t)).mono fun v hv=>?_;obtain⟨a,b,c⟩:=hv rfl;simp only [Qk,st.aa6];grind
theorem fW (hw:AJ H st): ∀ xs:List ResultVar,Yl (pT P st xs) (fun vs=>CQ H st.nx vs/\(CF P st.toSt xs).1/\(CF P st.toSt xs).2=Bf vs)
 | []=>Yl.ret (by simp_all [CQ,CF,Bf])
 | x::xs=>Yl.Q_ (Ki hw x) fun v hv=>Yl.Q_ (fW hw xs) (by simp_all [Yl.ret,CQ,CF,Bf])
theorem Aaq (hw:AJ H st) (xs:List ResultVar):Yl (w8 P st xs) (fun v=>v.ok H st.nx/\(Cy P st.toSt xs).1/\(Cy P st.toSt xs).2=v.toV):=by
 unfold w8;split
 ·rename_i x;exact Ki hw x
 ·rename_i hne;refine Yl.Q_ (fW hw _) fun vs hvs=>Yl.ret ?_;obtain⟨a,b,c⟩:=hvs;have:Cy P st.toSt xs=((CF P st.toSt xs).1, .tup (CF P st.toSt xs).2):=by unfold Cy;grind
  simp_all [DV.ok,DV.toV]
end
def pU:Option (DC T)->Bool
 | some (.c .L_)=>true
 | _=>false
def Ai.own (st:Ai T) (i:Ak) (j:Nat) (k:Ak) (E:Nat):Option (Ai T):=match st.new k (.row E [])with
 | some s=>match K2 s i with
   | some cs=>match pU cs[j]? with
     | true=>some (s.abx i (.box (cs.set j (.c (.h_ k)))))
     | false=>none
   | none=>none
 | none=>none
theorem mi {o:Option (DC T)} (h:pU o=true):o=some (.c .L_):=by grind [pU]
theorem w9 {H:Aw T} {st a_:Ai T} {i k:Ak} {j E:Nat} (h:AJ H st) (ho:st.own i j k E=some a_):(∃ H',Nx H st H' a_)/\Wk st.toSt a_.toSt/\a_.pre=st.pre:=by
 unfold Ai.own at ho;split at ho
 ·rename_i s hs;split at ho
  ·rename_i cs hb;split at ho
   ·rename_i hn;injection ho with ho;subst ho;obtain⟨⟨H1,n1⟩,h2,h3⟩:=Ai.acB h (x:= .row E []) trivial hs;have hc:=mi hn;have hok:(DX.box (cs.set j (.c (.h_ k)))).ok :=Da.2 fun c hm=>by
     rcases List.mem_or_eq_of_mem_set hm with q | q
     ·exact Da.1 (Sq n1.ok hb) c q
     grind [DC.ok]
    obtain⟨H2,n2⟩:=Ai.abk n1.ok i hok;refine⟨⟨H2,n1.trans n2⟩,?_,h3⟩;obtain⟨hl,_,e,e1,e2,e3⟩:=Hg hb;have am4:s.toSt.aiU i j=true:=by
     unfold St.aiU;rw [hl];have:(As cs)[j]? =some .L_ :=by rw [CG,getElem?_map,hc];rfl
     grind
    have ahx:(s.abx i (.box (cs.set j (.c (.h_ k))))).toSt =s.toSt.setCell i j (.h_ k):=by
     have hF:=ZX (t:=s.nx) (x:= .box (cs.set j (.c (.h_ k)))) (F:=fun e=>if e.id==i&& !e.pu then⟨e.id,e.row,e.cs.set j (.h_ k),false⟩else e) (id:=i)
      (by grind) n1.ok.nd e1 e2 (by
       rw [DE.toE_box e3];simp_all [DE.toE,CG,DC.toC])
     simp_all [Ai.toSt,Ai.abx,St.setCell]
    intro F a w G hR;have q1:=hR.amD k E (T.sz E);rw [ahx];have e5:(⟨k,0,DX.row E []⟩:DE T).toE =⟨k,some (E,T.sz E,0),[],true⟩:=rfl;rw [e5]at h2;exact⟨_,(q1.less h2).setCell am4 (by simp [Cb])⟩
   ·cases ho
  ·cases ho
 ·cases ho
def mj:List (Ak×Nat×Ak×Nat)->Ai T->Option (Ai T)
 | [],st=>some st
 | (i,j,k,E)::r,st=>match st.own i j k E with
   | some s=>mj r s
   | none=>none
theorem fX {H0:Aw T} {st0:Ai T}: ∀ {l:List (Ak×Nat×Ak×Nat)} {st a_:Ai T} {H:Aw T},Nx H0 st0 H st->mj l st=some a_->(∃ H',Nx H0 st0 H' a_)/\Wk st.toSt a_.toSt/\a_.pre=st.pre
 | [],st,a_,H,hN,h=>by simp only [mj,injEq]at h;subst h;exact⟨⟨H,hN⟩,Wk.less (Cn.refl _),rfl⟩
 | (i,j,k,E)::r,st,a_,H,hN,h=>by
   simp only [mj]at h;split at h
   ·rename_i s hs;obtain⟨⟨H1,n1⟩,w1,p1⟩:=w9 hN.ok hs;obtain⟨a,b,c⟩:=fX (hN.trans n1) h;exact⟨a,w1.trans b,c.trans p1⟩
   ·cases h
end Go.PL
namespace Go.PL
open Go Go.RowKit
variable {T:Bj}
mutual
def DC.i_ (p:Ak->Bool):DC T->Bool
 | .c x=>x.i_ p
 | .rp i _ _ _=>p i
 | .ap i _ _ _ _ _=>p i
 | .bs i _ _ _=>p i
 | .clo _ _ cs=>Ro p cs
 | .k _ _=>false
 | .ip .. =>false
def Ro (p:Ak->Bool):List (DC T)->Bool
 | []=>false
 | c::cs=>match c.i_ p with
   | true=>true
   | false=>Ro p cs
end
mutual
theorem DC.aip (p:Ak->Bool): ∀ c:DC T,c.i_ p=c.toC.i_ p
 | .c x=>by simp only [DC.i_,DC.toC]
 | .rp .. =>by simp only [DC.i_,DC.toC,C.i_]
 | .ap .. =>by simp only [DC.i_,DC.toC,C.i_]
 | .bs .. =>by simp only [DC.i_,DC.toC,C.i_]
 | .clo true _ cs=>by simp only [DC.i_,DC.toC,C.i_,F9 p cs]
 | .clo false _ cs=>by simp only [DC.i_,DC.toC,C.i_,F9 p cs]
 | .k kd x=>by cases kd<;>simp only [DC.i_,DC.toC,Bz,C.i_]
 | .ip .. =>by simp only [DC.i_,DC.toC,C.i_]
theorem F9 (p:Ak->Bool): ∀ cs:List (DC T),Ro p cs=Dp p (As cs)
 | []=>by simp only [Ro,As,Dp]
 | c::cs=>by simp only [Ro,As,Dp,DC.aip p c,F9 p cs];cases c.toC.i_ p<;>rfl
end
mutual
def DV.i_ (p:Ak->Bool):DV T->Bool
 | .c x=>x.i_ p
 | .agg cs=>Ro p cs
 | .tup vs=>jc p vs
 | .g _ v=>v.i_ p
 | .u =>false
def jc (p:Ak->Bool):List (DV T)->Bool
 | []=>false
 | v::vs=>match v.i_ p with
   | true=>true
   | false=>jc p vs
end
mutual
theorem DV.afn (p:Ak->Bool): ∀ v:DV T,v.i_ p=false->v.toV.i_ p=false
 | .c x,h=>by grind [DV.i_,DV.toV,V.i_,DC.aip]
 | .agg cs,h=>by grind [DV.i_,DV.toV,V.i_,F9]
 | .tup vs,h=>by simp only [DV.i_]at h;simp only [DV.toV,V.i_];exact fY p vs h
 | .g k v,h=>by simp only [DV.i_]at h;simp only [DV.toV,V.i_,DV.afn p v h]
 | .u,_=>by simp only [DV.toV,V.i_]
theorem fY (p:Ak->Bool): ∀ vs:List (DV T),jc p vs=false->OC p (Bf vs)=false
 | [],_=>by simp only [Bf,OC]
 | v::vs,h=>by
   simp only [jc]at h;split at h
   ·cases h
   ·rename_i hv;simp only [Bf,OC,DV.afn p v hv,fY p vs h,Bool.or_self]
end
def M1 (p:Ak->Bool) (c:DC T):DC T:=match c.i_ p with
 | true=> .c .any
 | false=>c
def DX.i_ (p:Ak->Bool):DX T->Bool
 | .box cs=>Ro p cs
 | .row _ _=>false
 | .deep .. =>false
def PX (p:Ak->Bool):DX T->DX T
 | .box cs=> .box (cs.map (M1 p))
 | x=>x
theorem az {p:Ak->Bool} {c:DC T} (h:c.ok):(M1 p c).ok :=by grind [M1,DC.ok]
theorem OY (p:Ak->Bool) (c:DC T):(M1 p c).toC =C1 p c.toC:=by grind [M1,C1,DC.aip,DC.toC]
theorem PY {p:Ak->Bool} {v:V} (h:v.i_ p=false):Ca p v=v:=by simp_all [Ca]
theorem U8 {p:Ak->Bool}: ∀ {l:List C},Dp p l=false->l.map (C1 p)=l
 | [],_=>rfl
 | c::l,h=>by simp only [Dp,Bool.or_eq_false_iff]at h;rw [map_cons,U8 h.2,C1,if_neg (by simp [h.1])]
theorem ml {p:Ak->Bool} {e:DE T} (t:Nat):(⟨e.id,t,PX p e.x⟩:DE T).toE =Ax.e_ p e.toE:=by
 unfold DE.toE;cases hxx:e.x with
 | box cs=>
   simp only [PX,Ax.e_,CG,map_map,Ax.mk.injEq,and_true,true_and];grind [map_congr_left,OY]
 | row E l=>rfl
 | deep E n l h=>rfl
theorem ut {p:Ak->Bool} {e:DE T} (h:e.x.i_ p=false):Ax.e_ p e.toE=e.toE:=by grind [DE.toE,DX.i_,F9,Ax.e_,U8]
theorem fZ {p:Ak->Bool} {m n:Nat} {tm:Tm T}:LK ((AD m tm).map (Ca p)) (AD m (Qn (DV.i_ p) (fun _=> .u) n tm)):=by unfold AD;rw [map_map];refine LK.map fun i _=>?_;simp only [Function.comp,MU (p:=DV.i_ p) (f:=fun _=>DV.u) (by simp [DV.i_])];grind [DV.toV,PY,DV.afn]
theorem xa {p:Ak->Bool}: ∀ (l:List (Nat×Tm T)) (n:Nat),LK ((l.flatMap fun f=>AD f.1 f.2).map (Ca p)) ((Q9 (DV.i_ p) (fun _=> .u) n l).flatMap fun f=>AD f.1 f.2)
 | [],_=>trivial
 | (m,tm)::r,n=>by simp only [Q9,flatMap_cons,map_append];exact fZ.append (xa r _)
def Ai.Tp (st:Ai T) (p:Ak->Bool):Ai T:=let s:=st.adw (DV.i_ p) (fun _=> .u) (DX.i_ p) (PX p);{s with so:=s.so.filter fun e=> !(p e.id)}
theorem mm (p:Ak->Bool) (l:List (DE T)):(l.filter fun e=> !(p e.id)).map DE.toE=(l.map DE.toE).filter fun e=> !(p e.id):=by
 induction l with
 | nil=>rfl
 | cons e l ih=>
   simp only [List.filter_cons,map_cons,DE.toE_id];grind
theorem jd (p:Ak->Bool) (l:List Ax):(l.map (Ax.e_ p)).filter (fun e=> !(p e.id))=(l.filter (fun e=> !(p e.id))).map (Ax.e_ p):=by induction l<;>grind [Ax.E_]
theorem Ai.acF {H:Aw T} {st:Ai T} (h:AJ H st) (p:Ak->Bool):(∃ H',Nx H st H' (st.Tp p))/\LK (st.toSt.tm.map (Ca p)) (st.Tp p).toSt.tm /\LK (st.toSt.gh.map (Ca p)) (st.Tp p).toSt.gh /\
 (st.Tp p).toSt.so =(st.toSt.so.filter fun e=> !(p e.id)).map (Ax.e_ p)/\(st.Tp p).pre =st.pre/\ ∀ e∈(st.Tp p).so,p e.id=false:=by
 obtain⟨H',hN⟩:=Ai.adO (p:=DV.i_ p) (f:=fun _=> .u) (q:=DX.i_ p) (g:=PX p) h (fun _=>by simp only [DV.ok]) (fun {x} hx=>by
  cases x with
  | box cs=>
    simp only [PX,DX.ok]at hx ⊢;refine Da.2 fun c hc=>?_;obtain⟨d,h1,rfl⟩:=mem_map.1 hc;grind [az,Da]
  | row E l=>exact hx
  | deep E n l h=>exact hx)
 refine⟨⟨H',hN.ext,hN.le,Ek hN.ok _⟩,fZ,xa _ _,?_,rfl,fun e he=>?_⟩
 ·show ((Ra (DX.i_ p) (PX p) (st.nx+st.tm.length+NV st.gh) st.so).filter fun e=> !(p e.id)).map DE.toE=_;rw [mm,ON (F:=Ax.e_ p) _ (fun e _=>⟨fun _ t=>ml t,fun hm=>ut hm⟩)];exact jd p _
 ·have:=(mem_filter.1 he).2;grind
def BB:List (Ak×DX T)->Ai T->Ai T
 | [],st=>st
 | (i,x)::r,st=>let s:=BB r st;{s with so:=⟨i,s.nx,x⟩::s.so,nx:=s.nx+1}
def dx (p:Ak×DX T):Ax:=(⟨p.1,0,p.2⟩:DE T).toE
theorem sj (i:Ak) (t:Nat) (x:DX T):(⟨i,t,x⟩:DE T).toE =dx (i,x):=by grind [dx,DE.toE]
theorem Ga: ∀ (l:List (Ak×DX T)) (st:Ai T),(BB l st).tm =st.tm/\(BB l st).gh =st.gh/\(BB l st).pre =st.pre/\(BB l st).m =st.m/\(BB l st).toSt.so =l.map dx++st.toSt.so/\(BB l st).so.map DE.id=l.map (·.1)++st.so.map DE.id
 | [],st=>⟨rfl,rfl,rfl,rfl,rfl,rfl⟩
 | (i,x)::r,st=>by obtain⟨a,b,c,d,e,f⟩:=Ga r st;simp_all [BB,Ai.toSt,sj]
theorem L7 {H:Aw T} {st0 st:Ai T}: ∀ {l:List (Ak×DX T)} {H1:Aw T},Nx H st0 H1 st->(∀ p∈l,p.2.ok)->(l.map (·.1)).Nodup ->(∀ p∈l, ∀ e∈st.so,e.id ≠ p.1)-> ∃ H',Nx H st0 H' (BB l st)
 | [],H1,hn,_,_,_=>⟨H1,hn⟩
 | (i,x)::r,H1,hn,hx,hd,hf=>by
   simp only [map_cons,nodup_cons]at hd;obtain⟨H2,h2⟩:=L7 hn (by grind) hd.2 (by grind);have he:=C2.X_ H2 (BB r st).nx ⟨i,(BB r st).nx,x⟩;refine⟨H2.X_ (BB r st).nx ⟨i,(BB r st).nx,x⟩,h2.trans ⟨he,le_succ _,?_,?_,?_,?_⟩⟩
   ·exact BW he (le_succ _) h2.ok.tm
   ·exact fun f hm=>BW he (le_succ _) (h2.ok.gh f hm)
   ·intro e hm;rcases mem_cons.1 hm with rfl | hm
    ·exact⟨Nat.lt_succ_self _,by simp [Aw.X_],hx (i,x) (by simp)⟩
    ·exact Fo he (le_succ _) h2.ok.so e hm
   ·show (i::(BB r st).so.map DE.id).Nodup;refine nodup_cons.2 ⟨fun hm=>?_,h2.ok.nd⟩;rw [(Ga r st).2.2.2.2.2]at hm;rcases List.mem_append.1 hm with hm | hm
    ·grind
    ·obtain⟨e,h3,h4⟩:=mem_map.1 hm;simp_all
def Aar (m:Nat) (id:Ak):(k:Kd)->PT T.den k->List (Ak×DX T)
 | .u_ E,l=>match m with
   | 1=>[(id, .row E l)]
   | 2=>[(1000003::id, .deep E (List.length l:Nat) l none)]
   | _=>[]
 | _,_=>[]
def pV:List Nat->Nat->Ak->(ks:List Kd)->DK T.den ks->List (Ak×DX T)
 | m::ms,i,G_,k::ks,x=>Aar m (i::G_) k x.1++pV ms (i+1) G_ ks x.2
 | _,_,_,_,_=>[]
def sk:List (List Nat)->Nat->Ak->(ts:List VT)->RT T ts->List (Ak×DX T)
 | m::_,p,G_,[t],x=>pV m 0 (p::G_) (Fe T t) (OV t x)
 | m::ms,p,G_,t::u::ts,x=>pV m 0 (p::G_) (Fe T t) (OV t x.1)++sk ms (p+1) G_ (u::ts) x.2
 | _,_,_,_,_=>[]
def uu (m:Nat) (id:Ak) (k:Kd) (x:PT T.den k):DC T:=match Qp m k with
 | 0=> .k k x
 | _=>match m with
   | 2=> .c (.h_ (1000003::id))
   | _=> .c (.h_ id)
def U9:List Nat->Nat->Ak->(ks:List Kd)->DK T.den ks->List (DC T)
 | m::ms,i,G_,k::ks,x=>uu m (i::G_) k x.1::U9 ms (i+1) G_ ks x.2
 | [],i,G_,k::ks,x=> .k k x.1::U9 [] i G_ ks x.2
 | _,_,_,[],_=>[]
def dy (m:List Nat) (G_:Ak):(t:VT)->Eo T t->DV T
 | .k kd,x=> .c (uu (m.headD 0) (0::G_) kd x)
 | .s E,x=> .agg (U9 m 0 G_ (T.ks E) (T.un E x))
 | .f g,_=> .c (.c (.fn g))
def Oo:List (List Nat)->Nat->Ak->(ts:List VT)->RT T ts->List (DV T)
 | m::_,p,G_,[t],x=>[dy m (p::G_) t x]
 | [],p,G_,[t],x=>[dy [] (p::G_) t x]
 | m::ms,p,G_,t::u::ts,x=>dy m (p::G_) t x.1::Oo ms (p+1) G_ (u::ts) x.2
 | [],p,G_,t::u::ts,x=>dy [] (p::G_) t x.1::Oo [] (p+1) G_ (u::ts) x.2
 | _,_,_,[],_=>[]
def dvR (ow:List (List Nat)) (G_:Ak) (ts:List VT) (x:RT T ts):DV T:=match Oo ow 0 G_ ts x with
 | [v]=>v
 | vs=> .tup vs
theorem L8 (m:Nat) (id:Ak) (k:Kd) (x:PT T.den k):(Kg m k x).length =(ac m id k).length /\(ac m id k).length =Qp m k:=by
 cases k with
 | u_ E=>
   match m with
   | 0=>exact⟨rfl,rfl⟩
   | 1=>exact⟨rfl,rfl⟩
   | 2=>exact⟨rfl,rfl⟩
   | _+3=>exact⟨rfl,rfl⟩
 | _=>exact⟨rfl,rfl⟩
theorem Jb: ∀ {a b:List OE} {i j:List Ak},a.length=i.length->CU (a++b) (i++j)=CU a i++CU b j
 | [],_,[],_,_=>rfl
 | [],_,_::_,_,h=>by simp at h
 | _::_,_,[],_,h=>by simp at h
 | o::a,b,x::i,j,h=>by simp only [cons_append,CU,Jb (a:=a) (i:=i) (by simpa using h)]
theorem uv (m:Nat) (id:Ak) (k:Kd) (x:PT T.den k):(Aar m id k x).map dx=CU (Kg m k x) (ac m id k)/\(Aar m id k x).map (·.1)=ac m id k/\ ∀ p∈Aar m id k x,p.2.ok:=by
 cases k with
 | u_ E=>
   match m with
   | 0=>exact⟨rfl,rfl,fun p hp=>by cases hp⟩
   | 1=>exact⟨rfl,rfl,fun p hp=>by rcases mem_singleton.1 hp with rfl;trivial⟩
   | 2=>exact⟨rfl,rfl,fun p hp=>by rcases mem_singleton.1 hp with rfl;trivial⟩
   | _+3=>exact⟨rfl,rfl,fun p hp=>by cases hp⟩
 | _=>exact⟨rfl,rfl,fun p hp=>by cases hp⟩
theorem M2: ∀ (ms:List Nat) (i:Nat) (G_:Ak) (ks:List Kd) (x:DK T.den ks),(Cq ms ks x).length =(L2 ms i G_ ks).length /\(L2 ms i G_ ks).length =Fq ms ks
 | [],_,_,_,_=>⟨rfl,rfl⟩
 | _::_,_,_,[],_=>⟨rfl,rfl⟩
 | m::ms,i,G_,k::ks,x=>by obtain⟨a,b⟩:=M2 ms (i+1) G_ ks x.2;obtain⟨c,d⟩:=L8 m (i::G_) k x.1;simp_all [Cq,L2,Fq]
theorem Va: ∀ (ms:List Nat) (i:Nat) (G_:Ak) (ks:List Kd) (x:DK T.den ks),(pV ms i G_ ks x).map dx=CU (Cq ms ks x) (L2 ms i G_ ks)/\(pV ms i G_ ks x).map (·.1)=L2 ms i G_ ks/\ ∀ p∈pV ms i G_ ks x,p.2.ok
 | [],_,_,_,_=>⟨rfl,rfl,fun p hp=>by cases hp⟩
 | _::_,_,_,[],_=>⟨rfl,rfl,fun p hp=>by cases hp⟩
 | m::ms,i,G_,k::ks,x=>by obtain⟨a,b,c⟩:=Va ms (i+1) G_ ks x.2;grind [uv,pV,Cq,L2,Jb,L8]
theorem mn: ∀ (ow:List (List Nat)) (p:Nat) (G_:Ak) (ts:List VT) (x:RT T ts),(sk ow p G_ ts x).map dx=CU (Dr ow ts x) (ae T ow p G_ ts)/\(sk ow p G_ ts x).map (·.1)=ae T ow p G_ ts/\ ∀ q∈sk ow p G_ ts x,q.2.ok
 | [],_,_,[],_=>⟨rfl,rfl,fun q hq=>by cases hq⟩
 | [],_,_,[_],_=>⟨rfl,rfl,fun q hq=>by cases hq⟩
 | [],_,_,_::_::_,_=>⟨rfl,rfl,fun q hq=>by cases hq⟩
 | _::_,_,_,[],_=>⟨rfl,rfl,fun q hq=>by cases hq⟩
 | m::ms,p,G_,[t],x=>by
   obtain⟨a,b,c⟩:=Va m 0 (p::G_) (Fe T t) (OV t x);have e:ae T (m::ms) p G_ [t]=L2 m 0 (p::G_) (Fe T t):=by cases ms<;>simp [ae]
   rw [e];exact⟨a,b,c⟩
 | m::ms,p,G_,t::u::ts,x=>by
   obtain⟨a,b,c⟩:=Va m 0 (p::G_) (Fe T t) (OV t x.1);obtain⟨a',b',c'⟩:=mn ms (p+1) G_ (u::ts) x.2;refine⟨?_,?_,fun q hq=>?_⟩
   ·grind [sk,Dr,ae,Jb,M2]
   all_goals grind [sk,ae]
theorem xb {pre:List Ak} {n:Ak} {post:List Ak}:(pre++([n]++post)).getD pre.length []=n:=by grind
theorem Vb (m:Nat) (id:Ak) (k:Kd) (x:PT T.den k) (pre post:List Ak):(uu m id k x).toC =(QA m pre.length k x).toC (pre++(ac m id k++post)):=by unfold uu QA ac;grind [PC.toC,DC.toC]
theorem Vc: ∀ (ms:List Nat) (i:Nat) (G_:Ak) (ks:List Kd) (x:DK T.den ks) (pre post:List Ak),As (U9 ms i G_ ks x)=(Fp ms pre.length ks x).map (PC.toC (pre++(L2 ms i G_ ks++post)))
 | [],_,_,[],_,_,_=>by simp [U9,Fp,As]
 | _::_,_,_,[],_,_,_=>by simp [U9,Fp,As]
 | [],i,G_,k::ks,x,pre,post=>by have:=Vc [] i G_ ks x.2 pre post;simp only [U9,Fp,As,map_cons,PC.toC,DC.toC,List.cons.injEq,true_and];exact this
 | m::ms,i,G_,k::ks,x,pre,post=>by have h1:=Vb m (i::G_) k x.1 pre (L2 ms (i+1) G_ ks++post);have h2:=Vc ms (i+1) G_ ks x.2 (pre++ac m (i::G_) k) post;rw [length_append,(L8 m (i::G_) k x.1).2]at h2;grind [U9,Fp,As,L2]
theorem PZ (m:List Nat) (G_:Ak) (t:VT) (x:Eo T t) (pre post:List Ak):(dy m G_ t x).toV =(IZ m pre.length t x).toV (pre++(L2 m 0 G_ (Fe T t)++post)):=by
 cases t with
 | k kd=>
   simp only [dy,IZ,PP.toV,DV.toV,Fe];cases m with
   | nil=>
     have:=Vb 0 (0::G_) kd x pre post;have e:ac 0 (0::G_) kd=[]:=by unfold ac Qp;grind
     grind [L2]
   | cons a m=>
     grind [Vb,L2]
 | s E=>grind [dy,IZ,PP.toV,DV.toV,Vc,Fe]
 | f g=>simp only [dy,IZ,PP.toV,DV.toV,DC.toC,PC.toC]
theorem Vd: ∀ (ow:List (List Nat)) (p:Nat) (G_:Ak) (ts:List VT) (x:RT T ts) (pre post:List Ak),Bf (Oo ow p G_ ts x)=(B2 ow pre.length ts x).map (PP.toV (pre++(ae T ow p G_ ts++post)))
 | [],_,_,[],_,_,_=>by simp [Oo,B2,Bf]
 | _::_,_,_,[],_,_,_=>by simp [Oo,B2,Bf]
 | [],p,G_,[t],x,pre,post=>by have:=PZ [] (p::G_) t x pre post;grind [L2,Oo,B2,Bf,ae]
 | m::ms,p,G_,[t],x,pre,post=>by have:=PZ m (p::G_) t x pre post;grind [ae,Oo,B2,Bf]
 | [],p,G_,t::u::ts,x,pre,post=>by
   have h1:=PZ [] (p::G_) t x.1 pre post;have e:L2 [] 0 (p::G_) (Fe T t)=[]:=by cases Fe T t<;>rfl
   rw [e]at h1;have h2:=Vd [] (p+1) G_ (u::ts) x.2 pre post;simp only [Oo,B2,Bf,map_cons,h1,h2,ae]
 | m::ms,p,G_,t::u::ts,x,pre,post=>by have h1:=PZ m (p::G_) t x.1 pre (ae T ms (p+1) G_ (u::ts)++post);have h2:=Vd ms (p+1) G_ (u::ts) x.2 (pre++L2 m 0 (p::G_) (Fe T t)) post;rw [length_append,(M2 m 0 (p::G_) (Fe T t) (OV t x.1)).2]at h2;grind [Oo,B2,Bf,ae]
theorem xc (ow:List (List Nat)) (G_:Ak) (ts:List VT) (x:RT T ts):(dvR ow G_ ts x).toV =Om (ae T ow 0 G_ ts) (B2 ow 0 ts x):=by
 have h:=Vd ow 0 G_ ts x [] [];simp only [List.length_nil,nil_append,append_nil]at h;unfold dvR Om;split
 ·rename_i v hv;rw [hv]at h;simp only [Bf]at h;split
  ·grind
  ·rename_i hne
   match hp:B2 ow 0 ts x,h,hne with
   | [p],_,hne=>grind
   | [],h,_=>simp at h
   | _::_::_,h,_=>simp at h
 ·rename_i hne;split
  ·rename_i p hp;rw [hp]at h
   match hv:Oo ow 0 G_ ts x,h,hne with
   | [v],_,hne=>grind
   | [],h,_=>simp [Bf]at h
   | _::_::_,h,_=>simp [Bf]at h
  ·simp only [DV.toV,h]
theorem sn (m:Nat) (id:Ak) (k:Kd) (x:PT T.den k):(uu m id k x).ok :=by unfold uu;grind [DC.ok]
theorem je: ∀ (ms:List Nat) (i:Nat) (G_:Ak) (ks:List Kd) (x:DK T.den ks),Cf (U9 ms i G_ ks x)
 | [],_,_,[],_=>by simp [U9,Cf]
 | _::_,_,_,[],_=>by simp [U9,Cf]
 | [],i,G_,k::ks,x=>by simp only [U9,Cf,DC.ok,true_and];exact je [] i G_ ks x.2
 | m::ms,i,G_,k::ks,x=>by simp only [U9,Cf];exact⟨sn _ _ _ _,je ms (i+1) G_ ks x.2⟩
theorem YE {H:Aw T} {n:Nat} (m:List Nat) (G_:Ak) (t:VT) (x:Eo T t):(dy m G_ t x).ok H n:=by cases t<;>grind [dy,DV.ok,sn,je,DC.ok]
theorem jf {H:Aw T} {n:Nat}: ∀ (ow:List (List Nat)) (p:Nat) (G_:Ak) (ts:List VT) (x:RT T ts),CQ H n (Oo ow p G_ ts x)
 | [],_,_,[],_=>by simp [Oo,CQ]
 | _::_,_,_,[],_=>by simp [Oo,CQ]
 | [],p,G_,[t],x=>by simp only [Oo,CQ,and_true];exact YE _ _ _ _
 | m::ms,p,G_,[t],x=>by simp only [Oo,CQ,and_true];exact YE _ _ _ _
 | [],p,G_,t::u::ts,x=>by simp only [Oo,CQ];exact⟨YE _ _ _ _,jf [] (p+1) G_ (u::ts) x.2⟩
 | m::ms,p,G_,t::u::ts,x=>by simp only [Oo,CQ];exact⟨YE _ _ _ _,jf ms (p+1) G_ (u::ts) x.2⟩
theorem Adt {H:Aw T} {n:Nat} (ow:List (List Nat)) (G_:Ak) (ts:List VT) (x:RT T ts):(dvR ow G_ ts x).ok H n:=by
 have:=jf (H:=H) (n:=n) ow 0 G_ ts x;unfold dvR;split
 all_goals simp_all [CQ,DV.ok]
def AfF (m:Nat) (id:Ak) (k:Kd):Bool:=match Qp m k with
 | 0=>true
 | _=>match m with
   | 2=>true
   | _=> !Fj id&& !Dh id
def Aas:List Nat->Nat->Ak->List Kd->Bool
 | m::ms,i,G_,k::ks=>AfF m (i::G_) k&&Aas ms (i+1) G_ ks
 | _,_,_,_=>true
def okR (T:Bj):List (List Nat)->Nat->Ak->List VT->Bool
 | m::ms,p,G_,t::ts=>Aas m 0 (p::G_) (Fe T t)&&okR T ms (p+1) G_ ts
 | _,_,_,_=>true
theorem K6: ∀ {a b:List OE} {i j:List Ak},KL a i=true->KL b j=true->KL (a++b) (i++j)=true
 | [],_,[],_,_,h=>h
 | [],_,_::_,_,h,_=>by simp [KL]at h
 | _::_,_,[],_,h,_=>by simp [KL]at h
 | o::a,b,x::i,j,h,k=>by simp_all [KL,K6]
theorem uw {m:Nat} {id:Ak} {k:Kd} (x:PT T.den k) (h:AfF m id k=true):KL (Kg m k x) (ac m id k)=true:=by
 cases k with
 | u_ E=>
   match m with
   | 0=>rfl
   | 1=>
     have h:(!Fj id&& !Dh id)=true:=h;simp only [and_eq_true,not_eq_true']at h;show ((Fj id==false&& !Dh id)&&true)=true;grind
   | 2=>rfl
   | _+3=>rfl
 | _=>rfl
theorem Ve: ∀ {ms:List Nat} {i:Nat} {G_:Ak} {ks:List Kd} (x:DK T.den ks),Aas ms i G_ ks=true->KL (Cq ms ks x) (L2 ms i G_ ks)=true
 | [],_,_,_,_,_=>rfl
 | _::_,_,_,[],_,_=>rfl
 | m::ms,i,G_,k::ks,x,h=>by simp only [Aas,and_eq_true]at h;exact K6 (uw x.1 h.1) (Ve x.2 h.2)
theorem mo: ∀ {ow:List (List Nat)} {p:Nat} {G_:Ak} {ts:List VT} (x:RT T ts),okR T ow p G_ ts=true->KL (Dr ow ts x) (ae T ow p G_ ts)=true
 | [],_,_,[],_,_=>rfl
 | [],_,_,[_],_,_=>rfl
 | [],_,_,_::_::_,_,_=>rfl
 | _::_,_,_,[],_,_=>rfl
 | m::ms,p,G_,[t],x,h=>by
   simp only [okR,and_eq_true]at h;have e:ae T (m::ms) p G_ [t]=L2 m 0 (p::G_) (Fe T t):=by cases ms<;>simp [ae]
   rw [e];exact Ve (OV t x) h.1
 | m::ms,p,G_,t::u::ts,x,h=>by rw [okR,and_eq_true]at h;rw [ae];exact K6 (Ve (OV t x.1) h.1) (mo x.2 h.2)
def M3 (ns:List Ak) (i:Ak):Bool:=match ns with
 | []=>false
 | n::r=>match Bi i n with
   | true=>true
   | false=>match aeR n i with
     | true=>true
     | false=>M3 r i
where aeR (n i:Ak):Bool:=match i with
 | m::_::j=>Nat.beq m 1000007&&Bi j n
 | _=>false
theorem sq: ∀ (ns:List Ak) (i:Ak),M3 ns i=LL ns i
 | [],_=>rfl
 | n::r,i=>by
   have e:M3.aeR n i=EL n i:=by unfold M3.aeR EL;split<;>simp [C3]
   simp only [M3,LL,List.any_cons,e,C3];have:=sq r i;unfold LL at this;rw [this];cases i==n<;>cases EL n i<;>rfl
def pW {P:Program} {I:World->Prop} (Γ:List (CE T P I)) (st:Ai T) (f:FuncId) (xs:List Operand) (d:Nat):M (Ai T):=
 match IX st [] xs with
 | some vs=>match MW st vs,SA vs with
   | some ws,[]=>match Ri f ws Γ with
     | some ⟨e,x⟩=>match e.ow with
       | []=> .no
       | m::ms=>Ts (MS (ae T (m::ms) 0 (d::st.pre) e.rs)&&okR T (m::ms) 0 (d::st.pre) e.rs) (.opt (e.run x) fun r=>
          .ret ((BB (sk (m::ms) 0 (d::st.pre) e.rs r) (st.Tp (M3 (ae T (m::ms) 0 (d::st.pre) e.rs)))).put (some d) (dvR (m::ms) (d::st.pre) e.rs r)))
     | none=> .no
   | _,_=> .no
 | none=> .no
theorem ux {H:Aw T} {P:Program} {I:World->Prop} {Γ:List (CE T P I)} {st:Ai T} (hw:AJ H st) {f:FuncId} {xs:List Operand} {o:Oper} (hk:Ck o.op= .call f xs) {d:Nat} (hd:o.dst=some d):
 Yl (pW Γ st f xs d) (fun a_=>(∃ H',Nx H st H' a_)/\a_.pre=st.pre/\ ∀ K:St->Prop,K a_.toSt->DW P I o st.toSt K):=by
 unfold pW;split
 ·rename_i vs hvs;split
  ·rename_i ws hws ath;split
   ·rename_i e x hx;obtain⟨he,hx⟩:=F6 hx;split
    ·exact Yl.no
    ·rename_i m ms how;refine Yl.Ts fun hg=>Yl.opt fun r hr=>Yl.ret ?_;simp only [and_eq_true]at hg;obtain⟨g1,g2⟩:=hg;have hnd:=Ic g1;obtain⟨a1,a2,a3⟩:=Dj (key:=[]) hw (fun _ hl=>by cases hl) rfl hvs;change (st.toSt.args true xs).1 at a2;change (st.toSt.args true xs).2=Bf vs at a3;have hc:=e.okx (by grind) x r hr;rw [he,how]at hc;have hs:(Bf vs).map (BC st.toSt)=F5 e.ps x:=by rw [Gy hws,hx]
     have hp:M3 (ae T (m::ms) 0 (d::st.pre) e.rs)=LL (ae T (m::ms) 0 (d::st.pre) e.rs):=by grind [sq]
     rw [hp];generalize hns:ae T (m::ms) 0 (d::st.pre) e.rs=ns at *;obtain⟨⟨H1,n1⟩,k1,k2,k3,k4,k5⟩:=Ai.acF hw (LL ns);obtain⟨x1,x2,x3⟩:=mn (m::ms) 0 (d::st.pre) e.rs r;rw [hns]at x1 x2;obtain⟨H2,n2⟩:=L7 (l:=sk (m::ms) 0 (d::st.pre) e.rs r) n1 x3 (by grind) (fun p hp' e' he' q=>by
      have h1:=k5 e' he';have h2:p.1∈ns:=by grind
      grind [LL])
     obtain⟨s1,s2,s3,s4,s5,_⟩:=Ga (sk (m::ms) 0 (d::st.pre) e.rs r) (st.Tp (LL ns));obtain⟨H3,n3⟩:=Ai.R_ n2 (some d) (Adt (m::ms) (d::st.pre) e.rs r);refine⟨⟨H3,n3⟩,by rw [AW,s3,k4],fun K hK=>?_⟩;have ag8:Cn ((st.toSt.e_ (LL ns) (CU (Dr (m::ms) e.rs r) ns++(st.toSt.so.filter fun e=> !(LL ns e.id)).map (Ax.e_ (LL ns)))).put (some d) (Om ns (B2 (m::ms) 0 e.rs r)))
      ((BB (sk (m::ms) 0 (d::st.pre) e.rs r) (st.Tp (LL ns))).put (some d) (dvR (m::ms) (d::st.pre) e.rs r)).toSt :=by
      rw [Ai.k_,xc,hns];refine Cn.put ?_ _ _;have t1:(BB (sk (m::ms) 0 (d::st.pre) e.rs r) (st.Tp (LL ns))).toSt.tm =(st.Tp (LL ns)).toSt.tm :=by grind [Ai.toSt]
      have t2:(BB (sk (m::ms) 0 (d::st.pre) e.rs r) (st.Tp (LL ns))).toSt.gh =(st.Tp (LL ns)).toSt.gh :=by simp only [Ai.toSt,s2]
      have t3:(BB (sk (m::ms) 0 (d::st.pre) e.rs r) (st.Tp (LL ns))).toSt.so =CU (Dr (m::ms) e.rs r) ns++(st.toSt.so.filter fun e=> !(LL ns e.id)).map (Ax.e_ (LL ns)):=by grind
      refine⟨by rw [t1];exact k1.get.1,fun i=>by rw [t1];exact k1.get.2 i,fun y hy=>by rw [t3]at hy;exact hy,fun hn=>by rw [t3];exact hn,by rw [t2];exact k2.get,?_⟩;show (BB (sk (m::ms) 0 (d::st.pre) e.rs r) (st.Tp (LL ns))).pre =st.pre;rw [s3,k4]
     intro F a w G Q hI hR;refine Oper.wp_mono (fun _ _ ⟨s,G',hs',hR'⟩=>⟨_,G',hK,(hs'▸hR').less ag8⟩) (DW.aue (K:=(· =(st.toSt.e_ (LL ns) (CU (Dr (m::ms) e.rs r) ns++(st.toSt.so.filter fun e=> !(LL ns e.id)).map (Ax.e_ (LL ns)))).put (some d) (Om ns (B2 (m::ms) 0 e.rs r)))) d hk hd a2 ?_ ?_ ?_ ?_ hnd rfl F a w G Q hI hR)
     ·grind [Kh]
     ·rw [a3,FK,ath]
     ·grind
     ·rw [<-hns];exact mo r g2
   ·exact Yl.no
  ·exact Yl.no
 ·exact Yl.no
end Go.PL
set_option linter.all false
namespace Go.PL
open Go Go.RowKit
variable {T:Bj}
def f0 (E E':Nat) (l:List (T.den E')):Option (List (T.den E)):=match Nat.decEq E' E with
 | .isTrue h=>some (h▸l)
 | .isFalse _=>none
theorem M4 {E E':Nat} {l:List (T.den E')} {m:List (T.den E)} (h:f0 E E' l=some m): ∃ e:E'=E,m=e▸l:=by
 unfold f0 at h;split at h
 all_goals grind
theorem aA {den:Nat->Type} {enc: ∀ E,den E->List C}: ∀ (ks:List Kd) (y:DK den ks),(BD enc ks y).map Ql=BD enc ks y
 | [],_=>rfl
 | k::ks,y=>by simp only [BD,map_cons,aA ks y.2];cases k<;>rfl
theorem WW: ∀ (ks:List Kd) (y:DK T.den ks),(BQ T ks y).map Ql=BD T.enc ks y
 | [],_=>rfl
 | k::ks,y=>by simp only [BQ,BD,map_cons,WW ks y.2];cases k<;>rfl
theorem Rq (E:Nat) (n:Int): ∀ (k:Int) (l:List (T.den E)),(AC T E n k l).map Ql=l.flatMap (T.enc E)
 | _,[]=>rfl
 | k,x::l=>by
   rw [AC,map_append,Rq E n (k+1) l,flatMap_cons];congr 1;split
   ·rw [Bj.aa2,WW,T.aa0]
   ·rw [<-T.aa0,aA]
def pDT (r id i:Ak):Bool:=match Bi i r with
 | true=>true
 | false=>M3.aeR id i
theorem M5 (n i:Ak):M3.aeR n i=EL n i:=by unfold M3.aeR EL;split<;>simp [C3]
theorem Adu (r id:Ak):pDT r id=pD r id:=by grind [pDT,pD,C3,M5]
theorem acr {id:Ak} {t:Nat} {x:DX T}: ∀ {l:List (DE T)} {e:DE T},(l.map DE.id).Nodup ->e∈UY id t x l->(e∈l/\e.id ≠ id)\/e=⟨id,t,x⟩
 | [],e,_,h=>by cases h
 | a::r,e,hn,h=>by
   rw [map_cons]at hn;obtain⟨n1,n2⟩:=nodup_cons.1 hn;unfold UY at h;split at h
   ·rename_i hb;have hb:=AP.1 hb;grind
   ·rename_i hb;rcases mem_cons.1 h with rfl | h
    ·exact .inl ⟨by simp,fun q=>by rw [AP.2 q]at hb;cases hb⟩
    ·rcases acr n2 h with ⟨h1,h2⟩ | h
     ·exact .inl ⟨by simp [h1],h2⟩
     ·exact .inr h
theorem f8 {H:Aw T} {st:Ai T} (hw:AJ H st) {p:Ak->Bool} {e:Ax} (h:e∈(st.Tp p).toSt.so): ∃ d∈st.toSt.so,p d.id=false/\e=d.e_ p:=by rw [(Ai.acF hw p).2.2.2.1]at h;grind
theorem M6 {A B:St} (h1:LK A.tm B.tm) (h2:LK A.gh B.gh) (h3: ∀ e∈B.so,e∈A.so) (h4:(B.so.map (·.id)).Nodup) (h5:B.pre=A.pre):Cn A B:=⟨h1.get.1,h1.get.2,h3,fun _=>h4,h2.get,h5⟩
theorem HQ {H:Aw T} {st:Ai T} (hw:AJ H st):(st.toSt.so.map (·.id)).Nodup :=by
 have e:st.toSt.so.map (·.id)=st.so.map DE.id:=by grind [Ai.toSt,map_congr_left,DE.toE_id]
 rw [e];exact hw.nd
theorem Jc {α:Type} [Inhabited α] {l:List α} {i:Int} {x:α} (h:idx l i=some x):0<=i/\i<(l.length:Int)/\l[i.toNat]? =some x:=by have hi:=OD h;have:=lB h;grind
def GA:(ks:List Kd)->DK T.den ks->Nat->Option ((F:Nat)×List (T.den F))
 | .u_ F::_,y,0=>some ⟨F,y.1⟩
 | _::ks,y,p+1=>GA ks y.2 p
 | _,_,_=>none
theorem OZ: ∀ {ks:List Kd} {y:DK T.den ks} {p:Nat} {F:Nat} {l:List (T.den F)},GA ks y p=some ⟨F,l⟩->(BQ T ks y)[p]? =some (.isl F (T.sz F) l.length (l.flatMap (T.enc F)))/\p<ks.length
 | [],_,_,_,_,h=>by simp [GA]at h
 | .u_ F'::ks,y,0,F,l,h=>by simp only [GA,injEq]at h;injection h with h1 h2;subst h1;have h2:=eq_of_heq h2;subst h2;exact⟨rfl,by simp⟩
 | .int k::ks,y,0,F,l,h=>by simp [GA]at h
 | .bool ::ks,y,0,F,l,h=>by simp [GA]at h
 | .str ::ks,y,0,F,l,h=>by simp [GA]at h
 | k::ks,y,p+1,F,l,h=>by
   have h:GA ks y.2 p=some ⟨F,l⟩:=by cases k<;>simpa only [GA] using h
   obtain⟨a,b⟩:=OZ h;exact⟨by simpa only [BQ,List.getElem?_cons_succ] using a,by simp;omega⟩
def GB (F:Nat) (l:List (T.den F)):(ks:List Kd)->DK T.den ks->Nat->Option (DK T.den ks)
 | .u_ F'::_,y,0=>match Nat.decEq F F' with
   | .isTrue h=>some (h▸l,y.2)
   | .isFalse _=>none
 | k::ks,y,p+1=>match GB F l ks y.2 p with
   | some z=>some (y.1,z)
   | none=>none
 | _,_,_=>none
theorem M7 {F:Nat} {l:List (T.den F)}: ∀ {ks:List Kd} {y z:DK T.den ks} {p:Nat},GB F l ks y p=some z->BQ T ks z=(BQ T ks y).set p (.isl F (T.sz F) l.length (l.flatMap (T.enc F)))/\p<ks.length
 | [],_,_,_,h=>by simp [GB]at h
 | .u_ F'::ks,y,z,0,h=>by
   simp only [GB]at h;split at h
   ·rename_i e _;subst e;injection h with h;subst h;exact⟨rfl,by simp⟩
   ·cases h
 | .int k::ks,y,z,0,h=>by simp [GB]at h
 | .bool ::ks,y,z,0,h=>by simp [GB]at h
 | .str ::ks,y,z,0,h=>by simp [GB]at h
 | k::ks,y,z,p+1,h=>by
   have h:(match GB F l ks y.2 p with | some z=>some ((y.1,z):PT T.den k×DK T.den ks) | none=>none)=some z:=by cases k<;>simpa only [GB] using h
   split at h
   ·rename_i z' hz;injection h with h;subst h;obtain⟨a,b⟩:=M7 hz;exact⟨by simp only [BQ,set_cons_succ];rw [a],by simp;omega⟩
   ·cases h
theorem Rr {E:Nat} {n:Int} {c:C} {p:Nat} {x':T.den E}: ∀ {l:List (T.den E)} {k:Int} {i:Nat} {x:T.den E},l[i]? =some x->k+i<n->T.aa2 E x'=(T.aa2 E x).set p c->p<T.sz E->(AC T E n k l).set (i*T.sz E+p) c=AC T E n k (l.set i x')
 | [],_,_,_,h,_,_,_=>by simp at h
 | y::l,k,0,x,h,hn,hx,hp=>by simp only [getElem?_cons_zero,injEq]at h;simp_all [AC,Ej]
 | y::l,k,i+1,x,h,hn,hx,hp=>by
   have hl:(if k<n then T.aa2 E y else T.enc E y).length =T.sz E:=by grind [Ej]
   rw [set_cons_succ,AC,AC,List.set_append_right _ _ (by rw [hl,add_mul,one_mul];omega),hl,show (i+1)*T.sz E+p - T.sz E=i*T.sz E+p by rw [add_mul,one_mul];omega];rw [Rr (by simpa using h) (by push_cast at hn;omega) hx hp]
theorem uy (E:Nat) (x:T.den E):Ap (T.aa2 E x)=true:=by
 have: ∀ (ks:List Kd) (y:DK T.den ks),Ap (BQ T ks y)=true:=by
  intro ks;induction ks with
  | nil=>intro _;rfl
  | cons k ks ih=>
    intro y;simp only [BQ,Ap,and_eq_true];exact⟨by cases k<;>rfl,ih y.2⟩
 exact this _ _
def Yld (P:Program) (I:World->Prop) (o:Oper) (A B:St):Prop:= ∀ (F:Fr) (a:Act) (w:World) (G:AG),F.I=I->R F A a w G-> ∃ v G',(∀ w',CX w w'->(execOp a.eval o).run P w'= .ok (.value v) w')/\R F B (a.put o.dst v) w G'
theorem Yld.esc {P:Program} {I:World->Prop} {o:Oper} {A B:St} {K:St->Prop} (h:Yld P I o A B) (hK:K B):DW P I o A K:=fun F a w G Q hI hR=>by obtain⟨v,G',h1,h2⟩:=h F a w G hI hR;exact AN (h1 w (CX.refl w)) ⟨_,G',hK,h2⟩
theorem uz {w w':World} {b k:Nat} {v:Value} (h:CX w w') (hc:w.cell? ⟨b,k,none⟩=some v):w'.cell? ⟨b,k,none⟩=some v:=by rw [Z_ (h.block b (block_lt_of_cell hc))];exact hc
def dlx (P:Program) (o:Oper) (st:Ai T):M (Ai T):=match o.op with
 | .load t x=>match o.dst,st.arg [] x,KP P t with
   | some d,some (.c (.rp id N i off)),some (false,1)=>match LV st id with
     | some ⟨E,(nn,l,none)⟩=>Ts (Fj id&&(Nat.beq N (T.sz E)&&(!(Dh (d::st.pre))&& !(Fj (d::st.pre))))) (.opt (idx l i) fun x=> .opt (n_ (i<nn)) fun _=>match GA (T.ks E) (T.un E x) off with
       | some ⟨F,y⟩=> .ret ((BB [(d::st.pre, .row F y)] ((st.Tp (pDT (d::st.pre) id)).abx id (.deep E nn l (some (i,off))))).put (some d) (.c (.c (.h_ (d::st.pre)))))
       | none=> .no)
     | _=> .no
   | _,_,_=> .no
 | _=> .no
theorem xd {H:Aw T} {P:Program} {I:World->Prop} {st:Ai T} (hw:AJ H st) {o:Oper}:Yl (dlx P o st) (fun a_=>(∃ H',Nx H st H' a_)/\a_.pre=st.pre/\Yld P I o st.toSt a_.toSt):=by
 unfold dlx;split
 ·rename_i t x hop;split
  ·rename_i d id N i off hd hx ht;split
   ·rename_i E nn l hdr;refine Yl.Ts fun hg=>Yl.opt fun xx hxx=>Yl.opt fun u hu=>?_;simp only [and_eq_true,beq_eq,not_eq_true']at hg;obtain⟨g1,g2,g3,g4⟩:=hg;subst g2;split
    ·rename_i F y hy;refine Yl.ret ?_;have hin:=Cz hu;obtain⟨i0,i1,hxi⟩:=Jc hxx;obtain⟨a1,a2,a3⟩:=Ke hw hx;obtain⟨hmk,hlr,e,he1,he2,he3⟩:=CA hdr;obtain⟨hc,acn⟩:=OZ hy;have hE:e.toE=⟨id,some (E,T.sz E,l.length),AC T E nn 0 l,true⟩:=by unfold DE.toE;rw [he3,he2];rfl
     obtain⟨⟨H1,n1⟩,k1,k2,k3,k4,k5⟩:=Ai.acF hw (pDT (d::st.pre) id);have hp:pDT (d::st.pre) id=pD (d::st.pre) id:=Adu _ _;rw [hp]at n1 k1 k2 k3 k4 k5 ⊢;have ai4:d::st.pre ≠ id:=fun q=>by rw [q,g1]at g4;cases g4
     obtain⟨H2,n2⟩:=Ai.abk n1.ok id (x:= .deep E nn l (some (i,off))) trivial;obtain⟨H3,n3⟩:=L7 (l:=[(d::st.pre,DX.row F y)]) (n1.trans n2) (fun p hp'=>by rcases mem_singleton.1 hp' with rfl;trivial) (by simp) (fun p hp' e' he' q=>by
      rcases mem_singleton.1 hp' with rfl;have aiq:e'.id∈((st.Tp (pD (d::st.pre) id)).so.map DE.id):=by rw [<-ZW id (st.Tp (pD (d::st.pre) id)).nx (.deep E nn l (some (i,off)))];exact mem_map.2 ⟨e',he',rfl⟩
      grind [pD])
     obtain⟨s1,s2,s3,s4,s5,_⟩:=Ga [(d::st.pre,DX.row F y)] ((st.Tp (pD (d::st.pre) id)).abx id (.deep E nn l (some (i,off))));obtain⟨H4,n4⟩:=Ai.R_ n3 (some d) (v:= .c (.c (.h_ (d::st.pre)))) (by simp only [DV.ok,DC.ok]);refine⟨⟨H4,n4⟩,by rw [AW,s3];exact k4,fun Fr a w G hI hR=>?_⟩;have hL:st.toSt.Ti id=some e.toE:=hR.aaa (mem_map.2 ⟨e,he1,rfl⟩) (by rw [hE]) g1;have hk:e.toE.cs[i.toNat*T.sz E+off]? =some (.isl F (T.sz F) y.length (y.flatMap (T.enc F))):=by rw [hE];show (AC T E nn 0 l)[_]? =_;rw [J8 hxi acn,if_pos (by omega)];exact hc
     have hxv:=hR.arg rfl a2;rw [a3]at hxv;simp only [DV.toV,DC.toC,Ae,Ah]at hxv;obtain⟨b,hb1,hv⟩:=hxv;obtain⟨G',q1,b2,v,q2,q3,q4,q5⟩:=hR.extract hL hk (r:=d::st.pre) g3 g4;rw [hb1]at q2;injection q2 with q2;subst q2;obtain⟨dd,ti,hu',hd',_⟩:=C9 ht;refine⟨v,G',fun w' hS=>?_,?_⟩
     ·simp [execOp,hop,hv,DT hu' hd' (uz hS q3)]
     ·rw [hd];have aqV:=R.put (d:=some d) q1 (show Ae w G' (V.c (C.h_ (d::st.pre))) v by simp only [Ae,Ah];exact⟨q4,q5⟩);refine aqV.less ?_;rw [Ai.k_];refine Cn.put (M6 ?_ ?_ ?_ ?_ ?_) _ _
      ·have:(BB [(d::st.pre,DX.row F y)] ((st.Tp (pD (d::st.pre) id)).abx id (.deep E nn l (some (i,off))))).toSt.tm =(st.Tp (pD (d::st.pre) id)).toSt.tm :=by simp only [Ai.toSt,s1,s4];rfl
       rw [this];exact k1
      ·have:(BB [(d::st.pre,DX.row F y)] ((st.Tp (pD (d::st.pre) id)).abx id (.deep E nn l (some (i,off))))).toSt.gh =(st.Tp (pD (d::st.pre) id)).toSt.gh :=by simp only [Ai.toSt,s2];rfl
       rw [this];exact k2
      ·intro z hz;rw [s5]at hz;simp only [map_cons,map_nil,List.singleton_append,mem_cons]at hz;simp only [St.e_,mem_cons,mem_map,mem_filter];rcases hz with rfl | hz
       ·exact .inl rfl
       ·right;obtain⟨e3,h1,rfl⟩:=mem_map.1 hz;rcases acr n1.ok.nd h1 with ⟨h1,h2⟩ | h1
        ·obtain⟨d3,h3,h4,h5⟩:=f8 hw (mem_map.2 ⟨e3,h1,rfl⟩);have axA:d3.id ≠ id:=by grind [Ax.E_,DE.toE_id]
         refine⟨d3.e_ (pD (d::st.pre) id),⟨d3,(by grind [pD]),rfl⟩,?_⟩;grind [Gu,Ax.E_]
        ·subst h1;refine⟨e.toE.e_ (pD (d::st.pre) id),⟨e.toE,⟨mem_map.2 ⟨e,he1,rfl⟩,by grind⟩,rfl⟩,?_⟩;rw [Gv (by rw [Ax.E_,hE]),Ax.E_,Ax.afr,hE];rfl
      ·exact HQ n3.ok
      ·rw [show (BB [(d::st.pre,DX.row F y)] ((st.Tp (pD (d::st.pre) id)).abx id (.deep E nn l (some (i,off))))).toSt.pre =st.pre from by show (BB _ _).pre =_;rw [s3];exact k4];rfl
    ·exact Yl.no
   ·exact Yl.no
  ·exact Yl.no
 ·exact Yl.no
end Go.PL
set_option linter.all false
namespace Go.PL
open Go Go.RowKit
variable {T:Bj}
def Ai.ack (st:Ai T) (p:Ak->Bool):Ai T:=let s:=st.adw (DV.i_ p) (fun _=> .u) (fun _=>false) id;{s with so:=s.so.filter fun e=> !(p e.id)&& !(e.x.i_ p)}
theorem sr: ∀ (l:List (DE T)) (n:Nat),Ra (fun _=>false) id n l=l
 | [],_=>rfl
 | e::r,n=>by simp only [Ra,sr r]
theorem aB {p:Ak->Bool} (m n:Nat) (tm:Tm T): ∀ i,(AD m (Qn (DV.i_ p) (fun _=> .u) n tm)).getD i .undef = .undef \/((AD m (Qn (DV.i_ p) (fun _=> .u) n tm)).getD i .undef =(AD m tm).getD i .undef /\((AD m tm).getD i .undef).i_ p=false):=fun i=>by
 unfold AD;simp only [List.getD_eq_getElem?_getD,getElem?_map];by_cases hi:i<m
 ·rw [List.getElem?_range hi];simp only [Option.map_some,getD_some,MU (p:=DV.i_ p) (f:=fun _=>DV.u) (by simp [DV.i_])];split
  ·grind [DV.toV]
  ·rename_i h;exact .inr ⟨rfl,DV.afn p _ h⟩
 grind
theorem dz (a b:List V) (i:Nat):(a++b).getD i .undef =if i<a.length then a.getD i .undef else b.getD (i - a.length) .undef :=by grind
theorem mq {p:Ak->Bool}: ∀ (l:List (Nat×Tm T)) (n:Nat),((Q9 (DV.i_ p) (fun _=> .u) n l).flatMap fun f=>AD f.1 f.2).length =(l.flatMap fun f=>AD f.1 f.2).length /\ ∀ i,((Q9 (DV.i_ p) (fun _=> .u) n l).flatMap fun f=>AD f.1 f.2).getD i .undef = .undef \/
 (((Q9 (DV.i_ p) (fun _=> .u) n l).flatMap fun f=>AD f.1 f.2).getD i .undef =(l.flatMap fun f=>AD f.1 f.2).getD i .undef /\((l.flatMap fun f=>AD f.1 f.2).getD i .undef).i_ p=false)
 | [],_=>⟨rfl,fun i=> .inl rfl⟩
 | (m,tm)::r,n=>by
   obtain⟨h1,h2⟩:=mq r (n+tm.length);have hl:(AD m (Qn (DV.i_ p) (fun _=> .u) n tm)).length =(AD m tm).length :=by rw [Bw,Bw]
   simp only [Q9,flatMap_cons];refine⟨by rw [length_append,length_append,h1,hl],fun i=>?_⟩;grind [dz,aB]
theorem M8 {H:Aw T} {st:Ai T} (h:AJ H st) (p:Ak->Bool):(∃ H',Nx H st H' (st.ack p))/\(st.ack p).pre =st.pre/\(∀ e∈(st.ack p).so,e∈st.so/\p e.id=false/\e.x.i_ p=false):=by obtain⟨H',hN⟩:=Ai.adO (p:=DV.i_ p) (f:=fun _=> .u) (q:=fun _=>false) (g:=id) h (fun _=>by simp only [DV.ok]) (fun {x} hx=>hx);refine⟨⟨H',hN.ext,hN.le,Ek hN.ok _⟩,rfl,fun e he=>?_⟩;obtain⟨h1,h2⟩:=mem_filter.1 he;have h1:e∈Ra (fun _=>false) id (st.nx+st.tm.length+NV st.gh) st.so:=h1;simp_all [sr]
theorem WX {H H2:Aw T} {st:Ai T} (hw:AJ H st) {p:Ak->Bool} {id:Ak} {ns:List Ak} {x:DX T} (hid: ∀ n∈ns,p n=true) (hok:AJ H2 ((st.ack p).abx id x)) {new:Ax} (aaF:dx (id,x)=new):fO p id ns new st.toSt ((st.ack p).abx id x).toSt :=by
 refine⟨?_,fun i=>?_,?_,fun i=>?_,fun z hz=>?_,HQ hok,rfl⟩
 ·show (AD _ _).length =(AD _ _).length;rw [Bw,Bw];rfl
 ·exact aB st.m st.nx st.tm i
 ·exact(mq st.gh _).1
 ·exact(mq st.gh _).2 i
 ·obtain⟨e,he,rfl⟩:=mem_map.1 hz;obtain⟨⟨H1,n1⟩,_,k3⟩:=M8 hw p;rcases acr n1.ok.nd he with ⟨h1,h2⟩ | h1
  ·right;obtain⟨q1,q2,q3⟩:=k3 e h1;refine⟨mem_map.2 ⟨e,q1,rfl⟩,by rw [DE.toE_id];exact h2,fun hq=>?_,?_⟩
   ·grind [DE.toE_id]
   ·unfold DE.toE;cases hx:e.x with
    | box cs=>
      grind [DX.i_,F9]
    | row E l=>grind
    | deep E n l h=>grind
  grind [sj]
def Vf (rs:List Ak) (id i:Ak):Bool:=match rs with
 | []=>M3.aeR id i
 | r::rs=>match Bi i r with
   | true=>true
   | false=>Vf rs id i
theorem jg: ∀ {rs:List Ak} {id r:Ak},r∈rs-> ∀ i,pD r id i=true->Vf rs id i=true
 | [],_,_,h,_,_=>by cases h
 | x::rs,id,r,h,i,hi=>by
   unfold Vf;split
   ·rfl
   ·rename_i hb;rcases mem_cons.1 h with rfl | h
    ·simp only [pD,Bool.or_eq_true,beq_iff_eq]at hi;rcases hi with hi | hi
     ·grind [AP]
     ·have: ∀ rs:List Ak,Vf rs id i=true:=by intro rs;induction rs<;>grind [Vf,M5]
      grind
    ·exact jg h i hi
theorem YF: ∀ {rs:List Ak} {id r:Ak},r∈rs->Vf rs id r=true
 | x::rs,id,r,h=>by
   unfold Vf;split
   ·rfl
   ·rename_i hb;rcases mem_cons.1 h with rfl | h
    ·rw [AP.2 rfl]at hb;cases hb
    ·exact YF h
def Adw (h:Option (Int×Nat)) (i:Int):Option Unit:=match h with
 | none=>some ()
 | some (j,_)=>n_ (i=j)
def dsa (P:Program) (o:Oper) (st:Ai T):M (Ai T):=match o.op with
 | .store t x y=>match o.dst,st.arg [] x,st.arg [] y,KP P t with
   | none,some (.c (.rp id N i off)),some (.c (.c (.h_ r))),some (false,1)=>match LV st id,DO st r with
     | some ⟨E,(nn,l,h)⟩,some ⟨F,y⟩=>Ts (Fj id&&(Nat.beq N (T.sz E)&&(match h with | none=>true | some (_,o)=>Nat.beq o off))) (.opt (idx l i) fun x=> .opt (n_ (i<nn)) fun _=> .opt (Adw h i) fun _=>
      match GB F y (T.ks E) (T.un E x) off with
      | some z=> .ret ((st.ack (Vf [r] id)).abx id (.deep E nn (l.set i.toNat (T.bd E z)) none))
      | none=> .no)
     | _,_=> .no
   | _,_,_,_=> .no
 | _=> .no
theorem Adx {H:Aw T} {P:Program} {I:World->Prop} {st:Ai T} (hw:AJ H st) {o:Oper}:Yl (dsa P o st) (fun a_=>(∃ H',Nx H st H' a_)/\a_.pre=st.pre/\ ∀ K:St->Prop,K a_.toSt->DW P I o st.toSt K):=by
 unfold dsa;split
 ·rename_i t x y hop;split
  ·rename_i id N i off r hd hx hy ht;split
   ·rename_i E nn l hh F yy hdr IN;refine Yl.Ts fun hg=>Yl.opt fun xx hxx=>Yl.opt fun u hu=>Yl.opt fun u2 hu2=>?_;simp only [and_eq_true,beq_eq]at hg;obtain⟨g1,g2,g3⟩:=hg;subst g2;split
    ·rename_i z hz;have hin:=Cz hu;obtain⟨i0,i1,hxi⟩:=Jc hxx;obtain⟨a1,a2,a3⟩:=Ke hw hx;obtain⟨b1,b2,b3⟩:=Ke hw hy;obtain⟨hmk,hlr,e,he1,he2,he3⟩:=CA hdr;obtain⟨r1,_,er,r2,r3,r4⟩:=BU IN;obtain⟨hz1,acn⟩:=M7 hz;have hE:e.toE=⟨id,some (E,T.sz E,l.length),Bk T E nn l hh,true⟩:=by grind [DE.toE]
     have ai_:T.aa2 E (T.bd E z)=(T.aa2 E xx).set off (.isl F (T.sz F) yy.length (yy.flatMap (T.enc F))):=by rw [Bj.aa2,T.aev,hz1];rfl
     have ahx:=Rr (n:=nn) (k:=0) (x':=T.bd E z) (c:= .isl F (T.sz F) yy.length (yy.flatMap (T.enc F))) (p:=off) hxi (by omega) ai_ acn;have hcells:(Bk T E nn l hh).set (i.toNat*T.sz E+off) (.isl F (T.sz F) yy.length (yy.flatMap (T.enc F)))=AC T E nn 0 (l.set i.toNat (T.bd E z)):=by
      rw [<-ahx];cases hh with
      | none=>rfl
      | some jo=>
        obtain⟨j,o2⟩:=jo;have g3:Nat.beq o2 off=true:=g3;have g3:=eq_of_beq_eq_true g3;have hho:i=j:=Cz hu2;grind [Bk,List.set_set]
     obtain⟨⟨H1,n1⟩,k2,k3⟩:=M8 hw (Vf [r] id);obtain⟨H2,n2⟩:=Ai.abk n1.ok id (x:= .deep E nn (l.set i.toNat (T.bd E z)) none) trivial;refine Yl.ret ⟨⟨H2,n1.trans n2⟩,k2,fun K hK Fr a w G Q hI hR=>?_⟩;have hL:st.toSt.Ti id=some e.toE:=hR.aaa (mem_map.2 ⟨e,he1,rfl⟩) (by rw [hE]) g1;have hxv:=hR.arg rfl a2;rw [a3]at hxv;simp only [DV.toV,DC.toC,Ae,Ah]at hxv;obtain⟨b,hb1,hv⟩:=hxv;have hyv:=hR.arg rfl b2;rw [b3]at hyv;simp only [DV.toV,DC.toC,Ae,Ah]at hyv;have hcl:(a.eval y).cells.toList =[a.eval y]:=by have:=hyv.2;cases hq:a.eval y<;>rw [hq]at this<;>first | rfl | cases this
     have hc:Al w G [C.any] (a.eval y).cells.toList :=by simp_all [Al,Ah]
     have hlen:e.toE.cs.length=l.length*T.sz E:=by grind [Fn]
     have atv:off<T.sz E:=acn;have hk:i.toNat*T.sz E+off<e.toE.cs.length:=by rw [hlen];have:(i.toNat+1)*T.sz E<=l.length*T.sz E:=mul_le_mul_right _ (by omega);grind
     obtain⟨cur,T',c1,c2,c3⟩:=hR.acG hL hb1 (off:=i.toNat*T.sz E+off) hc (by simp;omega) rfl rfl;have hs:=Eg (P:=P) ht c1 (by grind) c2 (Al.one hc);have ab9:(w.setRow b (cur.toList.take (i.toNat*T.sz E+off)++(a.eval y).cells.toList ++cur.toList.drop (i.toNat*T.sz E+off+(a.eval y).cells.toList.length)).toArray).cell? ⟨b,i.toNat*T.sz E+off,none⟩=some (a.eval y):=by
      have:=setRow_heap w b cur (cur.toList.take (i.toNat*T.sz E+off)++(a.eval y).cells.toList ++cur.toList.drop (i.toNat*T.sz E+off+(a.eval y).cells.toList.length)).toArray T' (0,0) c1;simp only [World.cell?,this];have hkl:(cur.toList.take (i.toNat*T.sz E+off)).length =i.toNat*T.sz E+off:=by grind
      simp_all
     generalize w.setRow b _=w1 at hs c3 ab9;have A_:(execOp a.eval o).run P w= .ok .skip w1:=by simp_all [execOp]
     have hr1:er.toE=⟨r,some (F,T.sz F,yy.length),yy.flatMap (T.enc F),true⟩:=by rw [DE.toE_row r4,r3]
     have hrd:Fj r=false:=FA r1;have ai4:r ≠ id:=(by grind);have ai8: ∀ d∈st.toSt.so,d.id ≠ id->d∈(st.toSt.aew id e.toE.row (e.toE.cs.take (i.toNat*T.sz E+off)++[C.any]++e.toE.cs.drop (i.toNat*T.sz E+off+[C.any].length))).so :=fun d hd' hne=>mem_map.2 ⟨d,hd',Gu hne⟩;have hL2:(st.toSt.aew id e.toE.row (e.toE.cs.take (i.toNat*T.sz E+off)++[C.any]++e.toE.cs.drop (i.toNat*T.sz E+off+[C.any].length))).Ti id=some ⟨id,e.toE.row,e.toE.cs.take (i.toNat*T.sz E+off)++[C.any]++e.toE.cs.drop (i.toNat*T.sz E+off+[C.any].length),true⟩:=by refine c3.aaa (mem_map.2 ⟨e.toE,mem_map.2 ⟨e,he1,rfl⟩,?_⟩) rfl g1;grind [Gv]
     have hLr:(st.toSt.aew id e.toE.row (e.toE.cs.take (i.toNat*T.sz E+off)++[C.any]++e.toE.cs.drop (i.toNat*T.sz E+off+[C.any].length))).look r=some er.toE:=
      c3.adk (ai8 _ (mem_map.2 ⟨er,r2,rfl⟩) (by grind)) (by grind) hrd (by grind)
     have hsl:(e.toE.cs.take (i.toNat*T.sz E+off)++[C.any]++e.toE.cs.drop (i.toNat*T.sz E+off+[C.any].length)).length =e.toE.cs.length:=by simp;omega
     obtain⟨G',q⟩:=c3.agC (p:=Vf [r] id) [⟨i.toNat*T.sz E+off,r,F,T.sz F,yy.length,yy.flatMap (T.enc F)⟩] hL2 hb1 (fun ar har=>by
      rcases mem_singleton.1 har with rfl;exact⟨by rw [hLr,hr1];rfl,by grind,jg (by simp),_,ab9,hyv.1⟩) (by simp) ((st.ack (Vf [r] id)).abx id (.deep E nn (l.set i.toNat (T.bd E z)) none)).toSt (by
      have aaF:dx (id,(DX.deep E nn (l.set i.toNat (T.bd E z)) none:DX T))=⟨id,e.toE.row,IY (e.toE.cs.take (i.toNat*T.sz E+off)++[C.any]++e.toE.cs.drop (i.toNat*T.sz E+off+[C.any].length)) [⟨i.toNat*T.sz E+off,r,F,T.sz F,yy.length,yy.flatMap (T.enc F)⟩],true⟩:=by
       show (⟨id,some (E,T.sz E,(l.set i.toNat (T.bd E z)).length),AC T E nn 0 (l.set i.toNat (T.bd E z)),true⟩:Ax)=_;have htl:(e.toE.cs.take (i.toNat*T.sz E+off)).length =i.toNat*T.sz E+off:=by grind
       simp only [IY,List.foldl_cons,List.foldl_nil,hE,length_set];congr 1;rw [<-hcells];apply List.ext_getElem?;intro j;have aw3:((Bk T E nn l hh).take (i.toNat*T.sz E+off)).length =i.toNat*T.sz E+off:=by grind
       have hkk:i.toNat*T.sz E+off<(Bk T E nn l hh).length :=by grind
       simp only [List.getElem?_set];by_cases hj:i.toNat*T.sz E+off=j
       ·grind
       ·rw [if_neg hj,if_neg hj,append_assoc];by_cases hjk:j<i.toNat*T.sz E+off
        ·grind
        ·rw [getElem?_append_right (by omega),aw3,getElem?_append_right (by simp;omega),List.getElem?_drop];grind
      have hB:=WX (ns:=[r]) hw (p:=Vf [r] id) (fun n hn=>by rcases mem_singleton.1 hn with rfl;exact YF (by simp)) n2.ok aaF;exact⟨hB.len,hB.tm,hB.ane,hB.gh,fun x hx=>(hB.so x hx).imp (fun q=>q) (by grind),hB.nd,hB.pre⟩)
     exact FG A_ (by rw [hd];exact⟨_,G',hK,q⟩)
    ·exact Yl.no
   ·exact Yl.no
  ·exact Yl.no
 ·exact Yl.no
end Go.PL
set_option linter.all false
namespace Go.PL
open Go Go.RowKit
variable {T:Bj}
theorem f9 {E:Nat} {n n':Int}: ∀ {l:List (T.den E)} {k:Int},n<=k->n'<=k->AC T E n k l=AC T E n' k l
 | [],_,_,_=>rfl
 | x::l,k,h,h'=>by rw [AC,AC,if_neg (by omega),if_neg (by omega),f9 (n':=n') (l:=l) (k:=k+1) (by omega) (by omega)]
theorem aD {E:Nat} {x':T.den E} {n:Int}: ∀ {l:List (T.den E)} {k:Int} {i:Nat},i<l.length->k+i=n->(AC T E n k l).take (i*T.sz E)++(T.aa2 E x'++(AC T E n k l).drop (i*T.sz E+T.sz E))=AC T E (n+1) k (l.set i x')
 | [],_,_,h,_=>by simp at h
 | y::l,k,0,h,hk=>by
   have hk:k=n:=by grind
   rw [List.set_cons_zero,AC,AC,if_neg (by omega),if_pos (by omega),Nat.zero_mul,zero_add,List.take_zero,nil_append,List.drop_append_of_le_length (by rw [AV];exact le_refl _),List.drop_eq_nil_of_le (by rw [AV];exact le_refl _),nil_append,f9 (n':=n+1) (by omega) (by omega)]
 | y::l,k,i+1,h,hk=>by
   have hk':k<n:=by grind
   have e:(i+1)*T.sz E=T.sz E+i*T.sz E:=by rw [add_mul,one_mul,Nat.add_comm]
   rw [set_cons_succ,AC,AC,if_pos hk',if_pos (by omega),e, <-aD (l:=l) (k:=k+1) (by simpa using h) (by push_cast at hk;omega)];rw [List.take_append,List.drop_append,Ej,List.take_of_length_le (by rw [Ej];omega),List.drop_eq_nil_of_le (by rw [Ej];omega),nil_append];grind
def NX:C->C
 | .h_ _=> .any
 | c=>c
def SC (st:Ai T):(ks:List Kd)->List (DC T)->Option (DK T.den ks×List Ak)
 | [],[]=>some ((),[])
 | .u_ F::ks,c::cs=>match K3 c with
   | some r=>match DO st r with
     | some ⟨F',l⟩=>match f0 F F' l,SC st ks cs with
       | some l',some (y,rs)=>some ((l',y),r::rs)
       | _,_=>none
     | none=>none
   | none=>none
 | .int k::ks,c::cs=>match IW false (.int k) c,SC st ks cs with
   | some x,some (y,rs)=>some ((x,y),rs)
   | _,_=>none
 | .bool ::ks,c::cs=>match IW false .bool c,SC st ks cs with
   | some x,some (y,rs)=>some ((x,y),rs)
   | _,_=>none
 | .str ::ks,c::cs=>match IW false .str c,SC st ks cs with
   | some x,some (y,rs)=>some ((x,y),rs)
   | _,_=>none
 | _,_=>none
structure Aat (st:Ai T) (ks:List Kd) (cs:List (DC T)) (y:DK T.den ks) (rs:List Ak) (b:Nat) (ars:List AR):Prop where
 ids:ars.map (·.r)=rs
 len:cs.length=ks.length
 at_: ∀ x∈ars,st.toSt.look x.r=some x.ent/\b<=x.k/\x.k<b+ks.length/\(As cs)[x.k - b]? =some (.h_ x.r)
 ajV: ∀ pre post:List C,pre.length=b->IY (pre++((As cs).map NX++post)) ars=pre++(BQ T ks y++post)
 pure:Ap ((As cs).map NX)=true
 noi:((As cs).map NX).all pi=true
theorem Aat.sc {st:Ai T} {ks:List Kd} {cs:List (DC T)} {y:DK T.den ks} {rs:List Ak} {b:Nat} {ars:List AR} (h:Aat st ks cs y rs (b+1) ars) (k:Kd) (x:PT T.den k) (c:DC T) (hk:PU k=true) (hc:c.toC=Bz T.enc k x):Aat st (k::ks) (c::cs) ((x,y):PT T.den k×DK T.den ks) rs b ars:=by
 have hu:NX c.toC=Zu T k x:=by rw [hc];cases k<;>first | rfl | cases hk
 have hp:(Zu T k x).pure =true/\pi (Zu T k x)=true:=by cases k<;>first | exact⟨rfl,rfl⟩ | cases hk
 refine⟨h.ids,by simp [h.len],fun z hz=>?_,fun pre post hl=>?_,?_,?_⟩
 ·obtain⟨a1,a2,a3,a4⟩:=h.at_ z hz;grind [As]
 ·have:=h.ajV (pre++[Zu T k x]) post (by simp [hl]);grind [As,BQ]
 ·simp only [As,map_cons,Ap,and_eq_true];exact⟨by grind,h.pure⟩
 ·simp only [As,map_cons,all_cons,and_eq_true];exact⟨by grind,h.noi⟩
theorem Jv {st:Ai T}: ∀ {ks:List Kd} {cs:List (DC T)} {y:DK T.den ks} {rs:List Ak},SC st ks cs=some (y,rs)-> ∀ b:Nat, ∃ ars,Aat st ks cs y rs b ars
 | [],[],y,rs,h,b=>by simp only [SC,injEq]at h;injection h with h1 h2;subst h1 h2;exact⟨[],rfl,rfl,(by grind),(fun pre post _=>rfl),rfl,rfl⟩
 | [],_::_,_,_,h,_=>by simp [SC]at h
 | k::_,[],_,_,h,_=>by grind [SC]
 | .int k::ks,c::cs,y,rs,h,b=>by
   simp only [SC]at h;split at h
   ·rename_i x y' rs' h1 h2;injection h with h;injection h with e1 e2;subst e1 e2;obtain⟨ars,ha⟩:=Jv h2 (b+1);exact⟨ars,ha.sc (.int k) x c rfl ((CR h1).2 rfl)⟩
   ·cases h
 | .bool ::ks,c::cs,y,rs,h,b=>by
   simp only [SC]at h;split at h
   ·rename_i x y' rs' h1 h2;injection h with h;injection h with e1 e2;subst e1 e2;obtain⟨ars,ha⟩:=Jv h2 (b+1);exact⟨ars,ha.sc .bool x c rfl ((CR h1).2 rfl)⟩
   ·cases h
 | .str ::ks,c::cs,y,rs,h,b=>by
   simp only [SC]at h;split at h
   ·rename_i x y' rs' h1 h2;injection h with h;injection h with e1 e2;subst e1 e2;obtain⟨ars,ha⟩:=Jv h2 (b+1);exact⟨ars,ha.sc .str x c rfl ((CR h1).2 rfl)⟩
   ·cases h
 | .u_ F::ks,c::cs,y,rs,h,b=>by
   simp only [SC]at h;split at h
   ·rename_i r ho;split at h
    ·rename_i F' l hr;split at h
     ·rename_i l' y' rs' h1 h2;injection h with h;injection h with e1 e2;subst e1 e2;obtain⟨e,rfl⟩:=M4 h1;subst e;obtain⟨ars,ha⟩:=Jv h2 (b+1);obtain⟨q1,_,d,q2,q3,q4⟩:=BU hr;have hc:=Em ho;refine⟨⟨b,r,F',T.sz F',l.length,l.flatMap (T.enc F')⟩::ars,by simp [ha.ids],by simp [ha.len],fun z hz=>?_,fun pre post hl=>?_,?_,?_⟩
      ·rcases mem_cons.1 hz with rfl | hz
       ·refine⟨q1,le_refl _,by simp,?_⟩;rw [hc,As,Nat.sub_self];rfl
       ·obtain⟨a1,a2,a3,a4⟩:=ha.at_ z hz;grind [As]
      ·have:=ha.ajV (pre++[.isl F' (T.sz F') l.length (l.flatMap (T.enc F'))]) post (by simp [hl]);have e1:IY (pre++((As (c::cs)).map NX++post)) (⟨b,r,F',T.sz F',l.length,l.flatMap (T.enc F')⟩::ars)=IY ((pre++[.isl F' (T.sz F') l.length (l.flatMap (T.enc F'))])++((As cs).map NX++post)) ars:=by unfold IY;simp_all [As]
       rw [e1,this];simp only [BQ,append_assoc,List.singleton_append,cons_append];rfl
      ·simp only [As,map_cons,Ap,and_eq_true];rw [hc];exact⟨rfl,ha.pure⟩
      ·simp only [As,map_cons,all_cons,and_eq_true];rw [hc];exact⟨rfl,ha.noi⟩
     ·cases h
    ·cases h
   ·cases h
theorem aE {w:World} {G:AG}: ∀ {cs:List C} {vs:List Value},Al w G cs vs->Al w G (cs.map NX) vs
 | [],[],_=>by simp [Al]
 | [],_::_,h=>by grind
 | _::_,[],h=>by simp [Al]at h
 | c::cs,v::vs,h=>by simp only [Al,map_cons]at h ⊢;refine⟨?_,aE h.2⟩;cases c<;>first | exact h.1 | (simp only [NX,Ah];exact h.1.one)
theorem aF {w:World} {G:AG}: ∀ {cs:List C} {vs:List Value} {k:Nat} {c:C},Al w G cs vs->cs[k]? =some c-> ∃ v,vs[k]? =some v/\Ah w G c v
 | [],_,_,_,_,h=>by simp at h
 | _::_,[],_,_,h,_=>by simp [Al]at h
 | d::cs,v::vs,0,c,h,hc=>by simp only [getElem?_cons_zero,injEq]at hc;subst hc;simp only [Al]at h;grind
 | d::cs,v::vs,k+1,c,h,hc=>by simp only [Al]at h;obtain⟨u,h1,h2⟩:=aF (k:=k) h.2 (by simpa using hc);exact⟨u,by simpa using h1,h2⟩
def dse (P:Program) (o:Oper) (st:Ai T):M (Ai T):=match o.op with
 | .store t x y=>match o.dst,st.arg [] x,st.arg [] y,KP P t with
   | none,some (.c (.rp id N i 0)),some (.agg cs),some (_,n)=>match LV st id with
     | some ⟨E,(nn,l,none)⟩=>match SC st (T.ks E) cs with
       | some (z,rs)=>Ts (Fj id&&(Nat.beq N (T.sz E)&&(Nat.beq n (T.sz E)&&MS rs))) (.opt (idx l i) fun _=> .opt (n_ (i=nn)) fun _=>
        .ret ((st.ack (Vf rs id)).abx id (.deep E (nn+1) (l.set i.toNat (T.bd E z)) none)))
       | none=> .no
     | _=> .no
   | _,_,_,_=> .no
 | _=> .no
theorem Ady {H:Aw T} {P:Program} {I:World->Prop} {st:Ai T} (hw:AJ H st) {o:Oper}:Yl (dse P o st) (fun a_=>(∃ H',Nx H st H' a_)/\a_.pre=st.pre/\ ∀ K:St->Prop,K a_.toSt->DW P I o st.toSt K):=by
 unfold dse;split
 ·rename_i t x y hop;split
  ·rename_i id N i cs ag n hd hx hy ht;split
   ·rename_i E nn l hdr;split
    ·rename_i z rs hea;refine Yl.Ts fun hg=>Yl.opt fun xx hxx=>Yl.opt fun u hu=>?_;simp only [and_eq_true,beq_eq]at hg;obtain⟨g1,g2,g3,g4⟩:=hg;subst g2 g3;have hin:i=nn:=Cz hu;obtain⟨i0,i1,hxi⟩:=Jc hxx;obtain⟨a1,a2,a3⟩:=Ke hw hx;obtain⟨b1,b2,b3⟩:=Ke hw hy;obtain⟨hmk,hlr,e,he1,he2,he3⟩:=CA hdr;have hE:e.toE=⟨id,some (E,T.sz E,l.length),AC T E nn 0 l,true⟩:=by unfold DE.toE;rw [he3,he2];rfl
     obtain⟨ars,ha⟩:=Jv hea (i.toNat*T.sz E);have hcl:cs.length=T.sz E:=ha.len;have aw_:=aD (x':=T.bd E z) (n:=nn) (l:=l) (k:=0) (i:=i.toNat) (by omega) (by omega);obtain⟨⟨H1,n1⟩,k2,k3⟩:=M8 hw (Vf rs id);obtain⟨H2,n2⟩:=Ai.abk n1.ok id (x:= .deep E (nn+1) (l.set i.toNat (T.bd E z)) none) trivial;refine Yl.ret ⟨⟨H2,n1.trans n2⟩,k2,fun K hK Fr a w G Q hI hR=>?_⟩;have hL:st.toSt.Ti id=some e.toE:=hR.aaa (mem_map.2 ⟨e,he1,rfl⟩) (by rw [hE]) g1;have hxv:=hR.arg rfl a2;rw [a3]at hxv;simp only [DV.toV,DC.toC,Ae,Ah,add_zero]at hxv;obtain⟨b,hb1,hv⟩:=hxv;have hyv:=hR.arg rfl b2;rw [b3]at hyv;simp only [DV.toV,Ae]at hyv;obtain⟨arr,hyv,hcs⟩:=hyv;have hvl:(a.eval y).cells.toList =arr.toList:=by rw [hyv];rfl
     have hlen:e.toE.cs.length=l.length*T.sz E:=by grind [J6]
     have hle:i.toNat*T.sz E+T.sz E<=e.toE.cs.length:=by rw [hlen];have:(i.toNat+1)*T.sz E<=l.length*T.sz E:=mul_le_mul_right _ (by omega);grind
     have hxl:((As cs).map NX).length =T.sz E:=by simp [hcl,AM]
     have hal:arr.toList.length=T.sz E:=by rw [<-hcs.length,AM,hcl]
     have hc:Al w G ((As cs).map NX) (a.eval y).cells.toList :=by grind [aE]
     obtain⟨cur,T',c1,c2,c3⟩:=hR.acG hL hb1 (off:=i.toNat*T.sz E) hc (by omega) ha.pure ha.noi;have hs:=Eg (P:=P) ht c1 (by grind) c2 (Al.one hc);rw [hvl]at hs c2 c3;have ab9: ∀ j v,arr.toList[j]? =some v->(w.setRow b (cur.toList.take (i.toNat*T.sz E)++arr.toList++cur.toList.drop (i.toNat*T.sz E+arr.toList.length)).toArray).cell? ⟨b,i.toNat*T.sz E+j,none⟩=some v:=by intro j v hj;have:=setRow_heap w b cur (cur.toList.take (i.toNat*T.sz E)++arr.toList++cur.toList.drop (i.toNat*T.sz E+arr.toList.length)).toArray T' (0,0) c1;simp only [World.cell?,this];grind
     generalize w.setRow b _=w1 at hs c3 ab9;have A_:(execOp a.eval o).run P w= .ok .skip w1:=by simp_all [execOp]
     have ai8: ∀ d∈st.toSt.so,d.id ≠ id->d∈(st.toSt.aew id e.toE.row (e.toE.cs.take (i.toNat*T.sz E)++(As cs).map NX++e.toE.cs.drop (i.toNat*T.sz E+((As cs).map NX).length))).so :=fun d hd' hne=>mem_map.2 ⟨d,hd',Gu hne⟩;have hL2:(st.toSt.aew id e.toE.row (e.toE.cs.take (i.toNat*T.sz E)++(As cs).map NX++e.toE.cs.drop (i.toNat*T.sz E+((As cs).map NX).length))).Ti id=some ⟨id,e.toE.row,e.toE.cs.take (i.toNat*T.sz E)++(As cs).map NX++e.toE.cs.drop (i.toNat*T.sz E+((As cs).map NX).length),true⟩:=by refine c3.aaa (mem_map.2 ⟨e.toE,mem_map.2 ⟨e,he1,rfl⟩,?_⟩) rfl g1;grind [Gv]
     have htl:(e.toE.cs.take (i.toNat*T.sz E)).length =i.toNat*T.sz E:=by grind
     have hsl:(e.toE.cs.take (i.toNat*T.sz E)++(As cs).map NX++e.toE.cs.drop (i.toNat*T.sz E+((As cs).map NX).length)).length =e.toE.cs.length:=by grind
     obtain⟨G',q⟩:=c3.agC (p:=Vf rs id) ars hL2 hb1 (fun ar har=>by
      obtain⟨p1,p2,p3,p4⟩:=ha.at_ ar har;obtain⟨hmr,afV⟩:=Bh p1;have hnd:=FA p1;have ai4:ar.r ≠ id:=(by grind);obtain⟨v,v1,v2⟩:=aF hcs p4;simp only [Ah]at v2;refine⟨c3.adk (by grind) afV hnd rfl,by grind,jg (by rw [<-ha.ids];grind),v,?_,v2.1⟩;grind) (by rw [ha.ids];exact Ic g4) ((st.ack (Vf rs id)).abx id (.deep E (nn+1) (l.set i.toNat (T.bd E z)) none)).toSt (by
      have aaF:dx (id,(DX.deep E (nn+1) (l.set i.toNat (T.bd E z)) none:DX T))=⟨id,e.toE.row,IY (e.toE.cs.take (i.toNat*T.sz E)++(As cs).map NX++e.toE.cs.drop (i.toNat*T.sz E+((As cs).map NX).length)) ars,true⟩:=by
       show (⟨id,some (E,T.sz E,(l.set i.toNat (T.bd E z)).length),AC T E (nn+1) 0 (l.set i.toNat (T.bd E z)),true⟩:Ax)=_;rw [append_assoc,ha.ajV _ _ htl,hxl, <-aw_];simp only [hE,length_set];congr 1;have:T.aa2 E (T.bd E z)=BQ T (T.ks E) z:=by rw [Bj.aa2,T.aev]
       rw [this]
      have hB:=WX (ns:=ars.map (·.r)) hw (p:=Vf rs id) (fun n hn=>by rw [ha.ids]at hn;exact YF hn) n2.ok aaF;exact⟨hB.len,hB.tm,hB.ane,hB.gh,fun x hx=>(hB.so x hx).imp (fun q=>q) (by grind),hB.nd,hB.pre⟩)
     exact FG A_ (by rw [hd];exact⟨_,G',hK,q⟩)
    ·exact Yl.no
   ·exact Yl.no
  ·exact Yl.no
 ·exact Yl.no
end Go.PL
set_option linter.all false
namespace Go.PL
open Go Go.RowKit
variable {T:Bj}
def SD (st:Ai T):Option Operand->Option (Option Int)
 | none=>some none
 | some x=>match st.arg [] x with
   | some (.c (.k (.int _) i))=>some (some i)
   | _=>none
theorem Hm {H:Aw T} {st:Ai T} (hw:AJ H st) {x:Option Operand} {i:Option Int} (h:SD st x=some i) {F:Fr} {a:Act} {w:World} {G:AG} (hR:R F st.toSt a w G): ∃ k:IntKind,x.map a.eval=i.map (Value.int k):=by
 cases x with
 | none=>simp only [SD,injEq]at h;subst h;simp_all
 | some x=>
   simp only [SD]at h;split at h
   ·rename_i k j hx;injection h with h;subst h;obtain⟨a1,a2,a3⟩:=Ke hw hx;have hxv:=hR.arg rfl a2;rw [a3]at hxv;simp only [DV.toV,DC.toC,Bz,Ae,Ah]at hxv;grind
   ·cases h
theorem su {P:Program} (len cap:Nat) (k1 k2 k3:IntKind) (lo hi mx:Option Int) (hm:mx.isSome=true->hi.isSome=true) (h1:0<=lo.getD 0) (h2:lo.getD 0<=hi.getD len) (h3:hi.getD len<=mx.getD cap) (h4:mx.getD cap<=cap) (w:World):
 (Instr.sliceBounds true len cap (lo.map (Value.int k1)) (hi.map (Value.int k2)) (mx.map (Value.int k3))).run P w= .ok ((lo.getD 0).toNat,(hi.getD len).toNat,(mx.getD cap).toNat) w:=by
 have e1: ∀ code,mx.isSome=true->(Instr.sliceBound (.int k3 (mx.getD cap)) cap code).run P w= .ok (mx.getD cap).toNat w:=(by grind [Th]);have e2: ∀ code,(Instr.sliceBound (.int k2 (hi.getD len)) (mx.getD cap).toNat code).run P w= .ok (hi.getD len).toNat w:=(by grind [Th]);have e3: ∀ code,(Instr.sliceBound (.int k1 (lo.getD 0)) (hi.getD len).toNat code).run P w= .ok (lo.getD 0).toNat w:=(by grind [Th]);cases lo<;>cases hi<;>cases mx<;>simp only [getD_some,getD_none,Option.isSome_some,Option.isSome_none,Bool.false_eq_true,forall_const,imp_self,toNat_natCast]at hm e1 e2 e3 ⊢ <;>simp [Instr.sliceBounds,e1,e2,e3]
 all_goals first | rfl | (exact absurd hm (by simp))
def Aau (P:Program) (o:Oper) (md:Bool) (st:Ai T):M (Ai T):=match o.op with
 | .slice t x lo hi mx=>match o.dst,st.arg [] x,DG P t with
   | some d,some (.c (.c (.h_ id))),some (_,n)=>match DO st id,SD st lo,SD st hi,SD st mx with
     | some ⟨E,l⟩,some lo',some hi',some mx'=>Ts (Nat.beq n (T.sz E)&&(mx'.isNone||hi'.isSome)) (match md with
       | true=>Ts mx'.isNone (.opt (n_ (0<=lo'.getD 0/\lo'.getD 0<=hi'.getD (l.length:Nat)/\hi'.getD (l.length:Nat)<=(l.length:Nat)/\0<l.length)) fun _=> .ret (st.put (some d) (.c (.bs id E (lo'.getD 0) (hi'.getD (l.length:Nat) - lo'.getD 0)))))
       | false=> .opt (n_ (0<=lo'.getD 0/\lo'.getD 0<=hi'.getD (l.length:Nat)/\hi'.getD (l.length:Nat)<=mx'.getD (l.length:Nat)/\mx'.getD (l.length:Nat)<=(l.length:Nat))) fun _=> .ret (st.put (some d) (.c (.c .any))))
     | _,_,_,_=> .no
   | some d,some (.c (.bs id E0 o0 n0)),some (_,n)=>match DO st id,SD st lo,SD st hi,SD st mx with
     | some ⟨E,l⟩,some lo',some hi',some none=>Ts (Nat.beq n (T.sz E)&&Nat.beq E0 E) (.opt (n_ (o0=0/\0<=lo'.getD 0/\lo'.getD 0<=hi'.getD (n0.toNat:Nat)/\hi'.getD (n0.toNat:Nat)<=(l.length:Nat)/\0<l.length)) fun _=> .ret (st.put (some d) (.c (.bs id E (lo'.getD 0) (hi'.getD (n0.toNat:Nat) - lo'.getD 0)))))
     | _,_,_,_=> .no
   | _,_,_=> .no
 | _=> .no
theorem R.ac5 {F:Fr} {st:Ai T} {a:Act} {w:World} {G:AG} (hR:R F st.toSt a w G) {id:Ak} {E:Nat} {l:List (T.den E)} (h:DO st id=some ⟨E,l⟩): ∃ v,G.own id=some v/\((∃ p,v= .slice p 0 0/\l.length=0)\/
 ∃ b cap cur,v= .slice (some ⟨b,0,none⟩) l.length cap/\G.p_ id=some b/\w.heap[b]? =some (.cells cur E (0,0))/\l.length<=cap/\cap<=maxLen/\cur.size=cap*T.sz E/\An w G (l.flatMap (T.enc E)) b 0):=by
 obtain⟨h1,_⟩:=BU h;obtain⟨hm,_⟩:=Bh h1;have hE:=hR.store _ hm;unfold Be at hE;obtain⟨_,v,e1,e2⟩:=hE;refine⟨v,e1,?_⟩;rcases e2 with ⟨p,q1,q2,_⟩ | ⟨b,cap,cur,q1,q2,q3,q4,q5,q6,q7⟩
 ·grind
 ·exact .inr ⟨b,cap,cur,q1,q2,q3,q4,q5,q6,q7⟩
theorem sv {H:Aw T} {P:Program} {I:World->Prop} {st:Ai T} (hw:AJ H st) {o:Oper} {md:Bool}:Yl (Aau P o md st) (fun a_=>(∃ H',Nx H st H' a_)/\a_.pre=st.pre/\Yld P I o st.toSt a_.toSt):=by
 unfold Aau;split
 ·rename_i t x lo hi mx hop;split
  ·rename_i d id e n hd hx ht;split
   ·rename_i E l lo' hi' mx' hr q1 q2 q3;refine Yl.Ts fun hg=>?_;simp only [and_eq_true,beq_eq,Bool.or_eq_true]at hg;obtain⟨g1,g2⟩:=hg;obtain⟨a1,a2,a3⟩:=Ke hw hx;obtain⟨hu,inf,hi1,hsz⟩:=Ec ht;have hm:mx'.isSome=true->hi'.isSome=true:=fun q=>by
     rcases g2 with g2 | g2
     all_goals simp_all
    have run: ∀ {F:Fr} {a:Act} {w:World} {G:AG},R F st.toSt a w G-> ∀ len cap (ad:Option Addr),a.eval x= .slice ad len cap->0<=lo'.getD 0->lo'.getD 0<=hi'.getD len->hi'.getD len<=mx'.getD cap->mx'.getD cap<=cap-> ∀ w',(execOp a.eval o).run P w'= .ok (.value (.slice (if(mx'.getD cap).toNat =(lo'.getD 0).toNat then ad else ad.map (·.add ((lo'.getD 0).toNat *n))) ((hi'.getD len).toNat - (lo'.getD 0).toNat) ((mx'.getD cap).toNat - (lo'.getD 0).toNat))) w':=by intro F a w G hR len cap ad hv b1 b2 b3 b4 w';obtain⟨k1,e1⟩:=Hm hw q1 hR;obtain⟨k2,e2⟩:=Hm hw q2 hR;obtain⟨k3,e3⟩:=Hm hw q3 hR;have hs:=su (P:=P) len cap k1 k2 k3 lo' hi' mx' hm b1 b2 b3 b4 w';simp [execOp,hop,e1,e2,e3,hv,Instr.sliceAt,Instr.slice,Sem.run_bind,run_underlying hu,hs,sizeOf,typeInfo,program,Sem.run,hi1,hsz]
    split
    ·refine Yl.Ts fun hmx=>Yl.opt fun u hn=>Yl.ret ?_;have hn:=Cz hn;have hmx:mx'=none:=by simp_all
     subst hmx;obtain⟨H1,n1⟩:=Ai.aar hw (some d) (v:= .c (.bs id E (lo'.getD 0) (hi'.getD (l.length:Nat) - lo'.getD 0))) (by grind [DV.ok,DC.ok]);refine⟨⟨H1,n1⟩,AW _ _ _,fun Fr a w G hI hR=>?_⟩;have hxv:=hR.arg rfl a2;rw [a3]at hxv;simp only [DV.toV,DC.toC,Ae,Ah]at hxv;obtain⟨v,v1,v2⟩:=hR.ac5 hr;rw [hxv.1]at v1;injection v1 with v1;rcases v2 with ⟨p,_,v2⟩ | ⟨b,cap,cur,rfl,v3,v4,v5,v6,v7,v8⟩
     ·omega
     ·have hs:=run hR l.length cap _ v1 hn.1 hn.2.1 (by simp only [getD_none];omega) (by simp);refine⟨_,G,fun w' _=>hs w',?_⟩;rw [hd,Ai.k_];refine hR.put ?_;simp only [DV.toV,DC.toC,Ae,Ah];refine⟨b,l.length,cap,(if cap=(lo'.getD 0).toNat then 0 else(lo'.getD 0).toNat *n),cap - (lo'.getD 0).toNat,by grind,?_,?_,by omega,fun hlt=>?_⟩
      ·simp only [getD_none,toNat_natCast];grind [Addr.add_mid]
      all_goals grind
    ·refine Yl.opt fun u hn=>Yl.ret ?_;have hn:=Cz hn;obtain⟨H1,n1⟩:=Ai.aar hw (some d) (v:= .c (.c .any)) (by simp only [DV.ok,DC.ok]);refine⟨⟨H1,n1⟩,AW _ _ _,fun Fr a w G hI hR=>?_⟩;have hxv:=hR.arg rfl a2;rw [a3]at hxv;simp only [DV.toV,DC.toC,Ae,Ah]at hxv;obtain⟨v,v1,v2⟩:=hR.ac5 hr;rw [hxv.1]at v1;injection v1 with v1;have hsl: ∃ ad cap,a.eval x= .slice ad l.length cap/\l.length<=cap:=by grind
     obtain⟨ad,cap,hsl,hlc⟩:=hsl;have hs:=run hR l.length cap ad hsl hn.1 hn.2.1 (by
      cases mx'<;>grind) (by
      cases mx'<;>grind)
     refine⟨_,G,fun w' _=>hs w',?_⟩;rw [hd,Ai.k_];refine hR.put ?_;simp only [DV.toV,DC.toC,Ae,Ah];rfl
   ·exact Yl.no
  ·rename_i d id E0 o0 n0 e n hd hx ht;split
   ·rename_i E l lo' hi' hr q1 q2 q3;refine Yl.Ts fun hg=>Yl.opt fun u hn=>Yl.ret ?_;simp only [and_eq_true,beq_eq]at hg;obtain⟨g1,g2⟩:=hg;subst g2;have hn:=Cz hn;obtain⟨a1,a2,a3⟩:=Ke hw hx;simp only [DV.ok,DC.ok]at a1;obtain⟨hu,inf,hi1,hsz⟩:=Ec ht;obtain⟨H1,n1⟩:=Ai.aar hw (some d) (v:= .c (.bs id E0 (lo'.getD 0) (hi'.getD (n0.toNat:Nat) - lo'.getD 0))) (by grind [DV.ok,DC.ok]);refine⟨⟨H1,n1⟩,AW _ _ _,fun Fr a w G hI hR=>?_⟩;have hxv:=hR.arg rfl a2;rw [a3]at hxv;simp only [DV.toV,DC.toC,Ae,Ah]at hxv;obtain⟨b1,ahu,ahG,o1,ab_,x1,x2,x3,x4,x5⟩:=hxv;obtain⟨v,v1,v2⟩:=hR.ac5 hr;rw [x1]at v1;injection v1 with v1;rcases v2 with ⟨p,_,v2⟩ | ⟨b,cap,cur,q,v3,v4,v5,v6,v7,v8⟩
    ·omega
    ·rw [q]at v1;injection v1 with z1 z2 z3;injection z1 with z1;injection z1 with z1;subst z1 z2 z3;have ho1:o1=0:=by grind
     subst ho1;have hc1:ab_=ahG:=by grind
     subst hc1;obtain⟨k1,e1⟩:=Hm hw q1 hR;obtain⟨k2,e2⟩:=Hm hw q2 hR;obtain⟨k3,e3⟩:=Hm hw q3 hR;have hs:=fun w'=>su (P:=P) n0.toNat ab_ k1 k2 k3 lo' hi' none (by simp) hn.2.1 hn.2.2.1 (by simp only [getD_none];omega) (by simp) w';refine⟨.slice (if ab_=(lo'.getD 0).toNat then some ⟨b1,0,none⟩else(some (⟨b1,0,none⟩:Addr)).map (·.add ((lo'.getD 0).toNat *n))) ((hi'.getD (n0.toNat:Nat)).toNat - (lo'.getD 0).toNat) (ab_ - (lo'.getD 0).toNat),G,fun w' _=>?_,?_⟩
     ·have hsw:=hs w';simp only [getD_none,toNat_natCast,Option.map_none]at hsw e3;simp [execOp,hop,e1,e2,e3,x2,Instr.sliceAt,Instr.slice,Sem.run_bind,run_underlying hu,hsw,sizeOf,typeInfo,program,Sem.run,hi1,hsz]
     ·rw [hd,Ai.k_];refine hR.put ?_;simp only [DV.toV,DC.toC,Ae,Ah];refine⟨b1,l.length,ab_,(if ab_=(lo'.getD 0).toNat then 0 else(lo'.getD 0).toNat *n),ab_ - (lo'.getD 0).toNat,x1,?_,?_,by omega,fun hlt=>?_⟩
      ·grind [Addr.add_mid]
      all_goals grind
   ·exact Yl.no
  ·exact Yl.no
 ·exact Yl.no
end Go.PL
set_option linter.all false
namespace Go.PL
open Go Go.RowKit
variable {T:Bj}
theorem mr {α:Type} {f:α->List C} {n:Nat} (hf: ∀ x,(f x).length =n) (l:List α):(l.flatMap f).length =l.length*n:=BP hf l
theorem R.ahS {F:Fr} {st:Ai T} {H:Aw T} {a:Act} {w:World} {G:AG} (hR:R F st.toSt a w G) (hw:AJ H st) {id:Ak} {E:Nat} {l m:List (T.den E)} (h:DO st id=some ⟨E,l⟩) {b:Nat} (hb:G.p_ id=some b) {off:Nat} {xs:List C} {vs:List Value} (hx:Al w G xs vs) (hp:Ap xs=true) (hml:m.length=l.length)
 (hm:(l.flatMap (T.enc E)).take off++xs++(l.flatMap (T.enc E)).drop (off+xs.length)=m.flatMap (T.enc E)) (acn:off+xs.length<=l.length*T.sz E):
 ∃ cur T',w.heap[b]? =some (.cells cur T' (0,0))/\off+vs.length<=cur.size/\R F (st.abx id (.row E m)).toSt a (w.setRow b (cur.toList.take off++vs++cur.toList.drop (off+vs.length)).toArray) G:=by
 obtain⟨h1,_,e,e1,e2,e3⟩:=BU h;obtain⟨cur,T',c1,c2,c3⟩:=hR.stored h1 hb (off:=off) hx (by grind [mr,AV]);refine⟨cur,T',c1,c2,?_⟩;have:=Ai.aeo hw e1 e2 (x:= .row E m) (cs:=m.flatMap (T.enc E)) (q:=Ap xs) (by
  rw [DE.toE_row e3,e2,hp];show (⟨id,some (E,T.sz E,l.length),m.flatMap (T.enc E),true&&true⟩:Ax)=⟨id,some (E,T.sz E,m.length),m.flatMap (T.enc E),true⟩;rw [hml];rfl)
 grind
def Adz (P:Program) (o:Oper) (st:Ai T):M (Ai T):=match o.op with
 | .call c=>match c.callee,c.args.toList,c.argTypes.toList with
   | .builtin .clear,[x],[t]=>match st.arg [] x,DG P t with
     | some (.c (.bs id E0 o0 n0)),some (e,n)=>match DO st id,Rc P e with
       | some ⟨E,l⟩,some z=>match vx false E z with
         | some z0=>Ts (Nat.beq n (T.sz E)&&(Nat.beq z.length n&&(Nat.beq E0 E&&Nat.blt 0 n))) (.opt (n_ (o0+n0<=(l.length:Nat)/\0<l.length)) fun _=>
          .ret ((st.abx id (.row E (l.take o0.toNat++(List.replicate n0.toNat z0++l.drop (o0.toNat+n0.toNat))))).put o.dst (.tup [])))
         | none=> .no
       | _,_=> .no
     | _,_=> .no
   | _,_,_=> .no
 | _=> .no
theorem Rs {α:Type} {f:α->List C} (z:α): ∀ n:Nat,(List.replicate n z).flatMap f=Cj (f z) n
 | 0=>by simp [Cj]
 | n+1=>by rw [List.replicate_succ,flatMap_cons,Rs z n,Wr]
theorem Aav {H:Aw T} {P:Program} {I:World->Prop} {st:Ai T} (hw:AJ H st) {o:Oper}:Yl (Adz P o st) (fun a_=>(∃ H',Nx H st H' a_)/\a_.pre=st.pre/\ ∀ K:St->Prop,K a_.toSt->DW P I o st.toSt K):=by
 unfold Adz;split
 ·rename_i c hop;split
  ·rename_i x t afx acQ aqI;split
   ·rename_i id E0 o0 n0 e n hx ht;split
    ·rename_i E l z hr hz;split
     ·rename_i z0 hz0;refine Yl.Ts fun hg=>Yl.opt fun u hn=>Yl.ret ?_;simp only [and_eq_true,beq_eq,Nat.blt_eq]at hg;obtain⟨g1,g2,g3,g4⟩:=hg;subst g1 g3;have hn:=Cz hn;obtain⟨a1,a2,a3⟩:=Ke hw hx;simp only [DV.ok,DC.ok]at a1;obtain⟨hu,inf,hi1,hsz⟩:=Ec ht;obtain⟨z1,z2⟩:=Ik hz;obtain⟨aD3,zv,hi2,hzv,hzc⟩:=JN z1;rw [hi1]at hi2;injection hi2 with hi2;subst hi2;have hzE:As z=T.enc E0 z0:=(Ie hz0).2 rfl;obtain⟨H1,n1⟩:=Ai.abk hw id (x:= .row E0 (l.take o0.toNat++(List.replicate n0.toNat z0++l.drop (o0.toNat+n0.toNat)))) trivial;obtain⟨H2,n2⟩:=Ai.R_ n1 o.dst (v:= .tup []) (by simp [DV.ok,CQ]);refine⟨⟨H2,n2⟩,by rw [AW];rfl,fun K hK Fr a w G Q hI hR=>?_⟩;have hxv:=hR.arg rfl a2;rw [a3]at hxv;simp only [DV.toV,DC.toC,Ae,Ah]at hxv;obtain⟨b1,ahu,ahG,o1,ab_,x1,x2,x3,x4,x5⟩:=hxv;obtain⟨v,v1,v2⟩:=hR.ac5 hr;rw [x1]at v1;injection v1 with v1;rcases v2 with ⟨p,_,v2⟩ | ⟨b,cap,cur,q,v3,v4,v5,v6,v7,v8⟩
      ·omega
      rw [q]at v1;injection v1 with y1 y2 y3;injection y1 with y1;injection y1 with y1;subst y1 y2 y3;have hzz:Al w G (Cj (T.enc E0 z0) n0.toNat) (Builtin.zeroCells zv.cells n0.toNat).toList :=by have hzl:=G9 (w:=w) (G:=G) hzc;rw [hzE]at hzl;exact PN hzl (by rw [AV];exact g4) n0.toNat
      have hlen:(Cj (T.enc E0 z0) n0.toNat).length =n0.toNat*T.sz E0:=by rw [<-Rs,mr (fun y=>AV E0 y),List.length_replicate]
      have hle:o0.toNat*T.sz E0+n0.toNat*T.sz E0<=l.length*T.sz E0:=by rw [<-add_mul];exact mul_le_mul_right _ (by omega)
      obtain⟨adr,T',c1,c2,c3⟩:=R.ahS (m:=l.take o0.toNat++(List.replicate n0.toNat z0++l.drop (o0.toNat+n0.toNat))) hR hw hr v3 (off:=o0.toNat*T.sz E0) hzz (Wi (by rw [<-hzE];have:=Dk (T:=T) (.s E0) z0;grind [Ep,V.pure]) _) (by simp;omega) (by
       rw [hlen,flatMap_append,flatMap_append,Rs, <-He (fun y=>AV E0 y), <-Jq (fun y=>AV E0 y),append_assoc,add_mul]) (by grind)
      have ea:c.args= #[x]:=by grind
      have et:c.argTypes= #[t]:=by grind
      have hzr:(zeroValue e).run P w= .ok zv w:=by simp_all [zeroValue,typeInfo]
      have acK:=Al.one hzz;by_cases h0:n0.toNat=0
      ·have am4:(Builtin.zeroCells zv.cells n0.toNat).toList =[]:=by rw [h0];simp [Builtin.zeroCells]
       have A_:(execOp a.eval o).run P w= .ok (.value (.tuple #[])) w:=by simp_all [execOp,resolve,invoke,builtin,Builtin.clear_,run_underlying]
       rw [am4]at c3;have apw:w.setRow b1 (adr.toList.take (o0.toNat*T.sz E0)++([]:List Value)++adr.toList.drop (o0.toNat*T.sz E0+([]:List Value).length)).toArray =w:=by simp only [append_nil,List.length_nil,add_zero,List.take_append_drop,Array.toArray_toList];exact setRow_self w b1 adr T' (0,0) c1
       rw [apw]at c3;exact AN A_ ⟨_,G,hK,by rw [Ai.k_];exact c3.put (by simp only [DV.toV,Bf,Ae,Aq];grind)⟩
      ·have ho1:o1=o0.toNat*T.sz E0:=x5 (by omega);have hst:=run_storeCells_at P b1 (o0.toNat*T.sz E0) T' (Builtin.zeroCells zv.cells n0.toNat).toList 0 adr w c1 (by grind) acK;simp only [add_zero]at hst;generalize hw1:w.setRow b1 _=w1 at hst c3;have A_:(execOp a.eval o).run P w= .ok (.value (.tuple #[])) w1:=by have h0':n0.toNat ≠ 0:=h0;obtain⟨k,hk⟩:=Nat.exists_eq_succ_of_ne_zero h0';rw [hk]at hst;simp [execOp,hop,resolve,afx,ea,et,invoke,builtin,Builtin.clear_,Sem.run_bind,run_underlying hu,x2,hk,hzr,ho1,hst]
       exact AN A_ ⟨_,G,hK,by rw [Ai.k_];exact c3.put (by simp only [DV.toV,Bf,Ae,Aq];grind)⟩
     ·exact Yl.no
    ·exact Yl.no
   ·exact Yl.no
  ·exact Yl.no
 ·exact Yl.no
def AdA (P:Program) (o:Oper) (st:Ai T):M (Ai T):=match o.op with
 | .call c=>match o.dst,c.callee,c.args.toList,c.argTypes.toList with
   | some d, .builtin .append,[x,y],[t,t']=>match st.arg [] x,st.arg [] y,DG P t with
     | some (.c (.bs id E0 o0 i)),some (.c (.bs id2 E2 j m)),some (e,n)=>match DO st id with
       | some ⟨E,l⟩=>Ts ((Bi id2 id&&(Nat.beq t t'&&Nat.beq e E))&&(Nat.beq n (T.sz E)&&(Nat.beq E0 E&&Nat.beq E2 E))) (.opt (n_ (o0=0/\i+m<=(l.length:Nat)/\j+m<=(l.length:Nat)/\0<l.length)) fun _=>
        .ret ((st.abx id (.row E (l.take i.toNat++((l.drop j.toNat).take m.toNat++l.drop (i.toNat+m.toNat))))).put (some d) (.c (.bs id E 0 (i+m)))))
       | none=> .no
     | _,_,_=> .no
   | _,_,_,_=> .no
 | _=> .no
theorem Aaw {H:Aw T} {P:Program} {I:World->Prop} {st:Ai T} (hw:AJ H st) {o:Oper}:Yl (AdA P o st) (fun a_=>(∃ H',Nx H st H' a_)/\a_.pre=st.pre/\ ∀ K:St->Prop,K a_.toSt->DW P I o st.toSt K):=by
 unfold AdA;split
 ·rename_i c hop;split
  ·rename_i d x y t t' hd afx acQ aqI;split
   ·rename_i id E0 o0 i id2 E2 j m e n hx hy ht;split
    ·rename_i E l hr;refine Yl.Ts fun hg=>Yl.opt fun u hn=>Yl.ret ?_;simp only [and_eq_true,beq_eq]at hg;obtain⟨⟨g0,gt,ge⟩,g1,g2,g3⟩:=hg;have g0:=(AP.1 g0).symm;subst g0 gt g1 g2 g3 ge;have hn:=Cz hn;obtain⟨a1,a2,a3⟩:=Ke hw hx;obtain⟨b1,b2,b3⟩:=Ke hw hy;simp only [DV.ok,DC.ok]at a1 b1;obtain⟨hu,inf,hi1,hsz⟩:=Ec ht;obtain⟨H1,n1⟩:=Ai.abk hw id (x:= .row e (l.take i.toNat++((l.drop j.toNat).take m.toNat++l.drop (i.toNat+m.toNat)))) trivial;obtain⟨H2,n2⟩:=Ai.R_ n1 (some d) (v:= .c (.bs id e 0 (i+m))) (by grind [DV.ok,DC.ok]);refine⟨⟨H2,n2⟩,by rw [AW];rfl,fun K hK Fr a w G Q hI hR=>?_⟩;have hxv:=hR.arg rfl a2;rw [a3]at hxv;simp only [DV.toV,DC.toC,Ae,Ah]at hxv;obtain⟨c1,ahu,ahG,o1,ab_,x1,x2,x3,x4,x5⟩:=hxv;have hyv:=hR.arg rfl b2;rw [b3]at hyv;simp only [DV.toV,DC.toC,Ae,Ah]at hyv;obtain⟨c1',az1,aAP,o2,are,y1,y2,y3,y4,y5⟩:=hyv;rw [x1]at y1;injection y1 with y1;injection y1 with w1 w2 w3;injection w1 with w1;injection w1 with w1;subst w1 w2 w3;obtain⟨v,v1,v2⟩:=hR.ac5 hr;rw [x1]at v1;injection v1 with v1;rcases v2 with ⟨p,_,v2⟩ | ⟨b,cap,cur,q,v3,v4,v5,v6,v7,v8⟩
     ·omega
     rw [q]at v1;injection v1 with k1 k2 k3;injection k1 with k1;injection k1 with k1;subst k1 k2 k3;have ho1:o1=0:=by grind
     have hc1:ab_=ahG:=by grind
     subst ho1 hc1;obtain⟨us,u1,u2⟩:=v8.list;have hul:us.length=l.length*T.sz e:=by rw [<-u1.length,mr (fun y=>AV e y)]
     have hmv:Al w G (((l.drop j.toNat).take m.toNat).flatMap (T.enc e)) ((us.drop (j.toNat*T.sz e)).take (m.toNat*T.sz e)):=by rw [<-He (fun y=>AV e y), <-Jq (fun y=>AV e y)];exact(u1.drop _).take _
     have hjm:j.toNat*T.sz e+m.toNat*T.sz e<=l.length*T.sz e:=by rw [<-add_mul];exact mul_le_mul_right _ (by omega)
     have him:i.toNat*T.sz e+m.toNat*T.sz e<=l.length*T.sz e:=by rw [<-add_mul];exact mul_le_mul_right _ (by omega)
     have hnl:((us.drop (j.toNat*T.sz e)).take (m.toNat*T.sz e)).length =m.toNat*T.sz e:=by rw [List.length_take,List.length_drop];omega
     have hxl:(((l.drop j.toNat).take m.toNat).flatMap (T.enc e)).length =m.toNat*T.sz e:=by rw [hmv.length,hnl]
     have ah0:Ap (((l.drop j.toNat).take m.toNat).flatMap (T.enc e))=true:=AX _ (fun y=>by have:=Dk (T:=T) (.s e) y;simpa only [Ep,V.pure] using this) _;obtain⟨adr,T',s1,s2,s3⟩:=R.ahS (m:=l.take i.toNat++((l.drop j.toNat).take m.toNat++l.drop (i.toNat+m.toNat))) hR hw hr v3 (off:=i.toNat*T.sz e) hmv ah0 (by simp;omega) (by
      rw [hxl,flatMap_append,flatMap_append, <-He (fun y=>AV e y) l i.toNat, <-Jq (fun y=>AV e y) l (i.toNat+m.toNat),append_assoc,add_mul]) (by grind)
     rw [v4]at s1;injection s1 with s1;injection s1 with s1 s1' _;subst s1 s1';have aqJ: ∀ jj u',((us.drop (j.toNat*T.sz e)).take (m.toNat*T.sz e))[jj]? =some u'->w.cell? ((⟨c1,o2,none⟩:Addr).add jj)=some u':=by
      intro jj u' hj;have hlt:jj<m.toNat*T.sz e:=by grind
      have hm0:0<m.toNat:=by grind
      have ho2:o2=j.toNat*T.sz e:=y5 (by omega);rw [List.getElem?_take,if_pos hlt,List.getElem?_drop]at hj;have:=u2 _ _ hj;simp_all [Addr.add_mid]
     have apx:=run_append_room (P:=P) w t o.type e inf hu hi1 c1 i.toNat ab_ cur v4 ⟨c1,o2,none⟩ m.toNat are ((us.drop (j.toNat*T.sz e)).take (m.toNat*T.sz e)) (by grind) aqJ (Al.one hmv) (by omega) (by grind);rw [hsz]at apx;have ea:c.args= #[x,y]:=by grind
     have et:c.argTypes= #[t,t]:=by grind
     generalize w.setRow c1 _=w1 at apx s3;have A_:(execOp a.eval o).run P w= .ok (.value (.slice (some ⟨c1,0,none⟩) (i.toNat+m.toNat) ab_)) w1:=by simp_all [execOp,resolve,invoke,builtin]
     refine AN A_ ⟨_,G,hK,?_⟩;rw [hd,Ai.k_];refine s3.put ?_;simp only [DV.toV,DC.toC,Ae,Ah];exact⟨c1,l.length,ab_,0,ab_,x1,by rw [show (i+m).toNat =i.toNat+m.toNat by omega],by omega,by simp,fun _=>by simp⟩
    ·exact Yl.no
   ·exact Yl.no
  ·exact Yl.no
 ·exact Yl.no
end Go.PL
set_option linter.all false
namespace Go.PL
open Go Go.RowKit
variable {T:Bj}
def dtr (d:Nat) (st:Ai T):M (Ai T):=match st.get d with
 | .c (.bs id E0 o n)=>match DO st id with
   | some ⟨E,l⟩=>Ts (Nat.beq E0 E) (.opt (n_ (o=0/\n<=(l.length:Nat)/\0<l.length)) fun _=>match st.new id (.row E (l.take n.toNat))with
     | some s=> .ret (s.put (some d) (.c (.c (.h_ id))))
     | none=> .no)
   | none=> .no
 | _=> .no
theorem AdB {H:Aw T} {st:Ai T} (hw:AJ H st) {d:Nat}:Yl (dtr d st) (fun a_=>(∃ H',Nx H st H' a_)/\a_.pre=st.pre/\Wk st.toSt a_.toSt):=by
 unfold dtr;split
 ·rename_i id E0 o n hs;split
  ·rename_i E l hr;refine Yl.Ts fun hg=>Yl.opt fun u hn=>?_;have hg:=eq_of_beq_eq_true hg;subst hg;have hn:=Cz hn;have hok:=Ai.afZ hw d;rw [hs]at hok;simp only [DV.ok,DC.ok]at hok;split
   ·rename_i s aaF;refine Yl.ret ?_;obtain⟨⟨H1,n1⟩,h2,h3⟩:=Ai.acB hw (x:= .row E0 (l.take n.toNat)) trivial aaF;obtain⟨H2,n2⟩:=Ai.R_ n1 (some d) (v:= .c (.c (.h_ id))) (by simp only [DV.ok,DC.ok]);refine⟨⟨H2,n2⟩,by rw [AW];exact h3,fun F a w G hR=>?_⟩;have hsl:=hR.z_ d;have hge:=st.aa6 d;rw [hs]at hge;have hsl:Ae w G (st.toSt.get d) (a.tmps.getD d Go.undef):=hsl;rw [hge]at hsl;simp only [DV.toV,DC.toC,Ae,Ah]at hsl;obtain⟨b1,ahu,ahG,o1,ab_,x1,x2,x3,x4,x5⟩:=hsl;obtain⟨v,v1,v2⟩:=hR.ac5 hr;rw [x1]at v1;injection v1 with v1;rcases v2 with ⟨p,_,v2⟩ | ⟨b,cap,cur,q,v3,v4,v5,v6,v7,v8⟩
    ·omega
    rw [q]at v1;injection v1 with k1 k2 k3;injection k1 with k1;injection k1 with k1;subst k1 k2 k3;have ho1:o1=0:=by grind
    have hc1:ab_=ahG:=by grind
    subst ho1 hc1;have ah0:Ap ((l.take n.toNat).flatMap (T.enc E0))=true:=AX _ (fun y=>by have:=Dk (T:=T) (.s E0) y;grind [Ep,V.pure]) _;have hlt:b1<w.heap.size:=(by grind);have ahx:=hR.set ⟨id,some (E0,T.sz E0,(l.take n.toNat).length),(l.take n.toNat).flatMap (T.enc E0),true⟩ (some b1) (some (a.tmps.getD d Go.undef)) ⟨rfl,rfl,rfl⟩ (le_refl _) (fun _ _ _=>rfl) (fun _ _ _=>rfl) (fun b' hb'=>by
     injection hb' with hb';subst hb';exact⟨.inr ⟨v3,Cg.same rfl⟩,hlt⟩) (fun _=>ah0) (by
     refine JL (Ax.ac8 _ _) ⟨?_,a.tmps.getD d Go.undef,by simp [Cb,Ax.P_], .inr ⟨b1,ab_,cur,?_,by simp [Cb,Ax.P_],v4,?_,v6,v7,?_⟩⟩
     ·show ((l.take n.toNat).flatMap (T.enc E0)).length =_;grind [mr,AV]
     ·grind
     ·grind
     ·show An w (Cb F G id (some b1) (some (a.tmps.getD d Go.undef))) ((l.take n.toNat).flatMap (T.enc E0)) b1 0;have hk:=hR.keeps id (some b1) (some (a.tmps.getD d Go.undef)) (by grind) (fun _ _ _=>rfl) (fun b' hb'=>by injection hb' with hb';subst hb';exact .inr ⟨v3,Cg.same rfl⟩);have:=v8.take (n.toNat*T.sz E0);rw [He (fun y=>AV E0 y)]at this;exact An.mono hk _ _ _ (fun i hi=>absurd (show BS i ((l.take n.toNat).flatMap (T.enc E0))=true from hi) (by rw [AQ i _ ah0];simp)) (fun _=>rfl) this)
    have hl:=ahx.less h2;refine⟨Cb F G id (some b1) (some (a.tmps.getD d Go.undef)),?_⟩;rw [Ai.k_];exact hl.aeQ (by simp only [DV.toV,DC.toC,Ae,Ah];exact⟨by simp [Cb],by rw [x2];rfl⟩)
   ·exact Yl.no
  ·exact Yl.no
 ·exact Yl.no
def ddp (d:Nat) (st:Ai T):M (Ai T):=match st.get d with
 | .c x=>match K3 x with
   | some r=>match DO st r with
     | some ⟨E,l⟩=> .ret ((BB [(1000003::r, .deep E 0 l none)] (st.Tp (fun i=>match Bi i r with | true=>true | false=>match Bi i (1000003::r)with | true=>true | false=>M3.aeR (1000003::r) i))).put (some d) (.c (.c (.h_ (1000003::r)))))
     | none=> .no
   | none=> .no
 | _=> .no
theorem aG (E:Nat): ∀ (k:Int) (l:List (T.den E)),0<=k->AC T E 0 k l=l.flatMap (T.enc E)
 | _,[],_=>rfl
 | k,x::l,h=>by rw [AC,if_neg (by omega),aG E (k+1) l (by omega),flatMap_cons]
theorem Aax (E:Nat) (x:T.den E):(T.enc E x).all pi=true:=by
 rw [<-T.aa0];have: ∀ (ks:List Kd) (y:DK T.den ks),(BD T.enc ks y).all pi=true:=by
  intro ks;induction ks with
  | nil=>intro _;rfl
  | cons k ks ih=>
    intro y;simp only [BD,all_cons,and_eq_true];exact⟨by cases k<;>rfl,ih y.2⟩
 grind
theorem xe {H:Aw T} {st:Ai T} (hw:AJ H st) {d:Nat}:Yl (ddp d st) (fun a_=>(∃ H',Nx H st H' a_)/\a_.pre=st.pre/\Wk st.toSt a_.toSt):=by
 unfold ddp;split
 ·rename_i x hs;split
  ·rename_i r ho;have:=Em ho;subst this;split
   ·rename_i E l hr;refine Yl.ret ?_;have hp:(fun i=>match Bi i r with | true=>true | false=>match Bi i (1000003::r)with | true=>true | false=>M3.aeR (1000003::r) i)=(fun i=>i==r||(i==1000003::r||EL (1000003::r) i)):=by grind [C3,M5]
    rw [hp];obtain⟨⟨H1,n1⟩,k1,k2,k3,k4,k5⟩:=Ai.acF hw (fun i=>i==r||(i==1000003::r||EL (1000003::r) i));obtain⟨H2,n2⟩:=L7 (l:=[(1000003::r,DX.deep E 0 l none)]) n1 (fun p hp=>by rcases mem_singleton.1 hp with rfl;trivial) (by simp) (fun p hp e he q=>by grind)
    obtain⟨s1,s2,s3,s4,s5,_⟩:=Ga [(1000003::r,DX.deep E 0 l none)] (st.Tp (fun i=>i==r||(i==1000003::r||EL (1000003::r) i)));obtain⟨H3,n3⟩:=Ai.R_ n2 (some d) (v:= .c (.c (.h_ (1000003::r)))) (by simp only [DV.ok,DC.ok]);refine⟨⟨H3,n3⟩,by grind [AW],fun F a w G hR=>?_⟩;have hsl:Ae w G (st.toSt.get d) (a.tmps.getD d Go.undef):=hR.z_ d;rw [st.aa6 d,hs]at hsl;simp only [DV.toV,DC.toC,Ae,Ah]at hsl;obtain⟨q1,_,e,q2,q3,q4⟩:=BU hr;obtain⟨G',g1,g2⟩:=hR.ang q1 rfl rfl (by
     grind [Aax]) (id:=1000003::r) rfl rfl
    refine⟨G',?_⟩;rw [Ai.k_];have ag8:Cn (st.toSt.e_ (fun i=>i==r||(i==1000003::r||EL (1000003::r) i)) (⟨1000003::r,some (E,T.sz E,l.length),l.flatMap (T.enc E),true⟩::((st.toSt.so.filter (fun d=>d.id != r&&d.id != 1000003::r)).map (Ax.e_ (fun i=>i==r||(i==1000003::r||EL (1000003::r) i))))))
     (BB [(1000003::r,DX.deep E 0 l none)] (st.Tp (fun i=>i==r||(i==1000003::r||EL (1000003::r) i)))).toSt :=by
     refine M6 ?_ ?_ ?_ (HQ n2.ok) ?_
     ·have:(BB [(1000003::r,DX.deep E 0 l none)] (st.Tp (fun i=>i==r||(i==1000003::r||EL (1000003::r) i)))).toSt.tm =(st.Tp (fun i=>i==r||(i==1000003::r||EL (1000003::r) i))).toSt.tm :=by grind [Ai.toSt]
      rw [this];exact k1
     ·have:(BB [(1000003::r,DX.deep E 0 l none)] (st.Tp (fun i=>i==r||(i==1000003::r||EL (1000003::r) i)))).toSt.gh =(st.Tp (fun i=>i==r||(i==1000003::r||EL (1000003::r) i))).toSt.gh :=by simp only [Ai.toSt,s2]
      rw [this];exact k2
     ·intro z hz;rw [s5]at hz;simp only [map_cons,map_nil,List.singleton_append,mem_cons]at hz;simp only [St.e_,mem_cons,mem_map,mem_filter];rcases hz with rfl | hz
      ·left;show (⟨1000003::r,some (E,T.sz E,l.length),AC T E 0 0 l,true⟩:Ax)=_;simp_all [aG]
      grind
     ·show (BB _ _).pre =st.pre;grind
    exact(g1.less ag8).aeQ (by simp_all [DV.toV,DC.toC,Ae,Ah])
   ·exact Yl.no
  ·exact Yl.no
 ·exact Yl.no
def pX (id:Ak) (E:Nat) (l:List (T.den E)) (c:DC T):DC T:=match K3 c with
 | some i=>match Bi i id with
   | true=> .k (.u_ E) l
   | false=>M1 (fun i=>match Bi i id with | true=>true | false=>M3.aeR id i) c
 | none=>M1 (fun i=>match Bi i id with | true=>true | false=>M3.aeR id i) c
def aH (id:Ak) (E:Nat) (l:List (T.den E)):DV T->DV T
 | .c x=> .c (pX id E l x)
 | .agg cs=> .agg (cs.map (pX id E l))
 | _=> .u
def pY (id:Ak) (E:Nat) (l:List (T.den E)):DX T->DX T
 | .box cs=> .box (cs.map (pX id E l))
 | x=>x
def pFT (id i:Ak):Bool:=match Bi i id with
 | true=>true
 | false=>M3.aeR id i
theorem xf (id:Ak):pFT id=pF id:=by grind [pFT,pF,C3,M5]
def Ai.aq7 (st:Ai T) (id:Ak):Option (Ai T):=match Fj id with
 | false=>none
 | true=>match LV st id with
   | some ⟨E,(_,l,none)⟩=>some (let s:=st.adw (DV.i_ (pFT id)) (aH id E l) (DX.i_ (pFT id)) (pY id E l);{s with so:=s.so.filter fun e=> !(Bi e.id id)})
   | _=>none
theorem aI (id:Ak) (E:Nat) (l:List (T.den E)) (c:DC T):(pX id E l c).toC =UN id l.length (l.flatMap (T.enc E)) c.toC:=by
 have hp:(fun i=>match Bi i id with | true=>true | false=>M3.aeR id i)=pF id:=xf id;unfold pX;rw [hp];split
 ·rename_i i ho;have:=Em ho;grind [AP,DC.toC,Bz,rI,OY,YA]
 grind [OY,YA,MX]
theorem sw {id:Ak} {E:Nat} {l:List (T.den E)} {c:DC T} (h:c.ok):(pX id E l c).ok :=by grind [pX,DC.ok,az]
theorem YG {id:Ak} {n:Nat} {ds:List C}: ∀ {l:List C},Dp (pF id) l=false->l.map (UN id n ds)=l
 | [],_=>rfl
 | c::l,h=>by simp only [Dp,Bool.or_eq_false_iff]at h;rw [map_cons,YG h.2,YA,C1,if_neg (by simp [h.1])];grind [C.i_,pF]
theorem Aay {id:Ak} {n:Nat} {ds:List C} {v:V} (h:v.i_ (pF id)=false):Qm id n ds v=v:=by
 cases v with
 | c x=>
   have:=YG (n:=n) (ds:=ds) (l:=[x]) (by simpa [Dp,V.i_] using h);grind [Qm]
 | agg cs=>grind [Qm,YG,V.i_]
 | tup vs=>exact PY h
 | g b x=>exact PY h
 | undef=>exact PY h
theorem jh (id:Ak) (l:List (DE T)):(l.filter fun e=> !(Bi e.id id)).map DE.toE=(l.map DE.toE).filter (fun d=>d.id != id):=agb id l
theorem uA {H:Aw T} {st a_:Ai T} {id:Ak} (h:AJ H st) (hk:st.aq7 id=some a_):(∃ H',Nx H st H' a_)/\Wk st.toSt a_.toSt/\a_.pre=st.pre:=by
 unfold Ai.aq7 at hk;split at hk
 ·cases hk
 ·rename_i hd;split at hk
  ·rename_i E n l hr;injection hk with hk;subst hk;rw [xf];obtain⟨H',hN⟩:=Ai.adO (p:=DV.i_ (pF id)) (f:=aH id E l) (q:=DX.i_ (pF id)) (g:=pY id E l) h (fun {H n v} hv=>by
    cases v<;>grind [aH,DV.ok,sw,Sw]) (fun {x} hx=>by
    cases x<;>grind [pY,DX.ok,Sw,sw])
   refine⟨⟨H',hN.ext,hN.le,Ek hN.ok _⟩,fun F a w G hR=>?_,rfl⟩;obtain⟨hmk,_,e,e1,e2,e3⟩:=CA hr;have hE:e.toE=⟨id,some (E,T.sz E,l.length),AC T E n 0 l,true⟩:=by unfold DE.toE;rw [e3,e2];rfl
   have hL:st.toSt.Ti id=some e.toE:=hR.aaa (mem_map.2 ⟨e,e1,rfl⟩) (by rw [hE]) hd;obtain⟨G',g⟩:=hR.aoL hL (by rw [hE]) (cells:=l.flatMap (T.enc E)) (by grind [Rq]);refine⟨G',g.less ?_⟩;have f1: ∀ v:DV T,v.i_ (pF id)=true->(aH id E l v).toV = .undef \/(aH id E l v).toV =Qm id l.length (l.flatMap (T.enc E)) v.toV:=fun v _=>by
    cases v with
    | c x=>grind [aH,DV.toV,Qm,aI]
    | agg cs=>
      right;simp only [aH,DV.toV,Qm,CG,map_map];grind [map_congr_left,aI]
    | _=>grind [aH,DV.toV]
   have f2: ∀ v:DV T,v.i_ (pF id)=false->Qm id l.length (l.flatMap (T.enc E)) v.toV=v.toV:=(by grind [Aay,DV.afn]);have sl: ∀ (m n:Nat) (tm:Tm T),LK ((AD m tm).map (Qm id l.length (l.flatMap (T.enc E)))) (AD m (Qn (DV.i_ (pF id)) (aH id E l) n tm)):=fun m n tm=>by unfold AD;rw [map_map];refine LK.map fun i _=>?_;simp only [Function.comp,MU (p:=DV.i_ (pF id)) (f:=aH id E l) (by simp [DV.i_])];grind
   have gl: ∀ (g:List (Nat×Tm T)) (n:Nat),LK ((g.flatMap fun f=>AD f.1 f.2).map (Qm id l.length (l.flatMap (T.enc E)))) ((Q9 (DV.i_ (pF id)) (aH id E l) n g).flatMap fun f=>AD f.1 f.2):=by
    intro g;induction g with
    | nil=>intro _;trivial
    | cons x r ih=>
      intro n;obtain⟨m,tm⟩:=x;simp only [Q9,flatMap_cons,map_append];exact(sl m n tm).append (ih _)
   refine M6 (sl _ _ _) (gl _ _) ?_ (HQ (Ek hN.ok _)) rfl;intro z hz;have hz:z∈((Ra (DX.i_ (pF id)) (pY id E l) (st.nx+st.tm.length+NV st.gh) st.so).filter fun e=> !(Bi e.id id)).map DE.toE:=hz;have hF: ∀ x∈st.so,(DX.i_ (pF id) x.x=true-> ∀ t,(⟨x.id,t,pY id E l x.x⟩:DE T).toE =Ax.frD id l.length (l.flatMap (T.enc E)) x.toE)/\(DX.i_ (pF id) x.x=false->Ax.frD id l.length (l.flatMap (T.enc E)) x.toE=x.toE):=by
    intro x _;have base: ∀ t,(⟨x.id,t,pY id E l x.x⟩:DE T).toE =Ax.frD id l.length (l.flatMap (T.enc E)) x.toE:=fun t=>by
     unfold DE.toE;cases hxx:x.x with
     | box cs=>
       simp only [pY,Ax.frD,CG,map_map,Ax.mk.injEq,and_true,true_and];grind [map_congr_left,aI]
     | row E l=>rfl
     | deep E n l h=>rfl
    grind [DE.toE,DX.i_,F9,Ax.frD,YG]
   rw [jh,ON (F:=Ax.frD id l.length (l.flatMap (T.enc E))) _ hF]at hz;obtain⟨h1,h2⟩:=mem_filter.1 hz;obtain⟨d,h3,rfl⟩:=mem_map.1 h1;refine mem_map.2 ⟨d,mem_filter.2 ⟨h3,?_⟩,rfl⟩;have:(Ax.frD id l.length (l.flatMap (T.enc E)) d).id =d.id:=by obtain⟨i,r,cs,_ | _⟩:=d<;>rfl
   grind
  ·cases hk
end Go.PL
namespace Go.PL
open Go Go.RowKit
variable {T:Bj}
theorem aJ: ∀ {vs:List Value} {l:List C},D3 vs=some l-> ∀ v∈vs,(Fc v).isSome =true
 | [],_,_,v,hv=>by cases hv
 | x::vs,l,h,v,hv=>by
   unfold D3 at h;split at h
   ·rename_i c cs h1 h2;rcases mem_cons.1 hv with rfl | hv
    ·rw [h1];rfl
    ·exact aJ h2 v hv
   ·cases h
theorem mt {P:Program} {st:St} {w:World} {G:AG} {d:Nat} {t:TypeId} {l c:V} {u v:Value} (hx:Ae w G l u) (hy:Ae w G c v) (hs:(KX P st d t l c).1) {r:Value} {w':World} (hr:(Instr.makeSlice t u v).run P w= .ok r w'):
 ∃ len cap,r= .slice (some ⟨w.heap.size,0,none⟩) len cap/\ ∀ k v,w'.cell? ⟨w.heap.size,k,none⟩=some v->(Fc v).isSome =true:=by
 unfold KX at hs;split at hs
 ·rename_i k1 l k2 c E n by' abP;split at hs
  ·rename_i z hz;obtain⟨h0,h1,h2,h3,h4,h5⟩:=hs;obtain⟨i,zv,hu,hi,hzv,hsz,hby,hzs⟩:=FV abP;obtain⟨i',zv',hi',adp,hc⟩:=JN hz;rw [hi]at hi';injection hi' with hi';subst hi';rw [hzv]at adp;injection adp with adp;subst adp;have hM:maxLen=9223372036854775807:=rfl;simp only [Ae,Ah]at hx hy;subst hx hy;have A_:=run_make (P:=P) w t E i zv hu hi hzv k1 k2 l c h0 h1 (by rw [hby,Int.mul_comm];omega) (by omega);rw [A_]at hr;injection hr with hr1 hr2;subst hr1 hr2;refine⟨_,_,rfl,fun k v hv=>?_⟩;have afX:=aJ hc;have ab9:(madeCells zv.cells (c.toNat*i.size))[k]? =some v:=by simp_all
   have hk:k<c.toNat*i.size:=by grind [madeCells]
   have hz0:0<zv.cells.size:=by grind
   grind [madeCells,Nat.mod_lt]
  grind
 grind
theorem AdC {w:World} {G:AG} {n:Nat} {cs:List C} {v:Value} (h:Ah w G (.sl n cs) v) (hc:(Fc v).isSome =true):v= .slice none 0 0/\n=0/\cs=[]:=by simp only [Ah]at h;obtain⟨_,a,cap,rfl,h1,_,h3,_⟩:=h;unfold Fc at hc;grind
theorem aK: ∀ {ks:List Kd} {y:DK T.den ks} {p:Nat} {c:C},(BQ T ks y)[p]? =some c->(∃ F n cs,c= .isl F (T.sz F) n cs/\(BD T.enc ks y)[p]? =some (.sl n cs))\/((BD T.enc ks y)[p]? =some c/\pi c=true)
 | [],_,_,_,h=>by simp [BQ]at h
 | k::ks,y,0,c,h=>by
   simp only [BQ,getElem?_cons_zero,injEq]at h;simp only [BD,getElem?_cons_zero,injEq];cases k with
   | u_ F=>exact .inl ⟨F,_,_,h.symm,rfl⟩
   | int _=>exact .inr ⟨h,by rw [<-h];rfl⟩
   | bool=>exact .inr ⟨h,by rw [<-h];rfl⟩
   | str=>exact .inr ⟨h,by rw [<-h];rfl⟩
 | k::ks,y,p+1,c,h=>by simp only [BQ,List.getElem?_cons_succ]at h;simp only [BD,List.getElem?_cons_succ];exact aK h
theorem aL {E:Nat} {n:Int}: ∀ {l:List (T.den E)} {k:Int} {j:Nat} {c:C},k+l.length<=n->(AC T E n k l)[j]? =some c->(∃ F m cs,c= .isl F (T.sz F) m cs/\(l.flatMap (T.enc E))[j]? =some (.sl m cs))\/((l.flatMap (T.enc E))[j]? =some c/\pi c=true)
 | [],_,_,_,_,h=>by simp [AC]at h
 | x::l,k,j,c,hn,h=>by
   simp only [AC,List.length_cons]at h hn;rw [if_pos (by omega)]at h;have hl:(T.aa2 E x).length =(T.enc E x).length :=by
    unfold Bj.aa2;rw [<-T.aa0];have: ∀ (ks:List Kd) (y:DK T.den ks),(BQ T ks y).length =(BD T.enc ks y).length :=by intro ks;induction ks<;>grind [BQ,BD]
    grind
   rw [flatMap_cons];by_cases hj:j<(T.aa2 E x).length
   ·rw [List.getElem?_append_left hj]at h;rw [List.getElem?_append_left (by omega), <-T.aa0];exact aK h
   ·rw [getElem?_append_right (by omega)]at h;rw [getElem?_append_right (by omega), <-hl];exact aL (by omega) h
theorem SE {E:Nat} {n:Int}: ∀ (l:List (T.den E)) (k:Int),Ap (AC T E n k l)=true
 | [],_=>rfl
 | x::l,k=>by
   rw [AC,B0,SE l (k+1),Bool.and_true];split
   ·exact uy E x
   ·have:=Dk (T:=T) (.s E) x;grind [Ep,V.pure]
def AdD:Int->Bool
 | .ofNat 0=>true
 | _=>false
theorem uB {n:Int} (h:AdD n=true):n=0:=by grind [AdD]
def dmk (P:Program) (o:Oper) (st:Ai T):M (Ai T):=match o.op,o.dst with
 | .makeSlice t l c,some d=> .Q_ (t8 P st o) fun st1=> .Q_ (ddp d st1) fun st2=>match st2.get d with
   | .c (.c (.h_ id))=>match LV st2 id with
     | some ⟨E,(nn,l,none)⟩=>Ts (Fj id&&(Nat.blt d st2.m&&AdD nn)) (.opt (n_ (0<l.length)) fun _=> .ret ((st2.Tp (M3.aeR id)).abx id (.deep E (List.length l:Nat) l none)))
     | _=> .no
   | _=> .no
 | _,_=> .no
theorem AdE {H:Aw T} {P:Program} {I:World->Prop} {st:Ai T} (hw:AJ H st) {o:Oper}:Yl (dmk P o st) (fun a_=>(∃ H',Nx H st H' a_)/\a_.pre=st.pre/\ ∀ K:St->Prop,K a_.toSt->DW P I o st.toSt K):=by
 unfold dmk;split
 ·rename_i t lo co d hop hd;refine Yl.Q_ (YD hw o) fun st1 h1=>?_;obtain⟨⟨H1,n1⟩,e1,e2,p1⟩:=h1;refine Yl.Q_ (xe n1.ok) fun st2 h2=>?_;obtain⟨⟨H2,n2⟩,p2,w2⟩:=h2;split
  ·rename_i id hg;split
   ·rename_i E nn l hdr;refine Yl.Ts fun hb=>Yl.opt fun u hu=>Yl.ret ?_;simp only [and_eq_true,Nat.blt_eq]at hb;obtain⟨hb1,hb2,hb3⟩:=hb;have hnn:=uB hb3;subst hnn;have hlen:0<l.length:=Cz hu;have hp:(M3.aeR id)=EL id:=funext fun i=>M5 id i;rw [hp];obtain⟨⟨H3,n3⟩,k1,k2,k3,k4,k5⟩:=Ai.acF n2.ok (EL id);obtain⟨H4,n4⟩:=Ai.abk n3.ok id (x:= .deep E (List.length l:Nat) l none) trivial;refine⟨⟨H4,((n1.trans n2).trans n3).trans n4⟩,by show (st2.Tp (EL id)).pre =st.pre;grind,fun K hK F a w G Q hI hR=>?_⟩;have ak5:(KX P st.toSt d t (st.toSt.arg true lo).2 (st.toSt.arg true co).2).1/\(st.toSt.arg true lo).1/\(st.toSt.arg true co).1:=by grind [ef]
    obtain⟨nx,w',G1,q1,q2⟩:=(Sc hR e1).out;have hx:=hR.arg rfl ak5.2.1;have hy:=hR.arg rfl ak5.2.2;obtain⟨r0,w0,G0,m1,_⟩:=Wm (d:=d) hR hx hy ak5.1;have A_:(execOp a.eval o).run P w= .ok (.value r0) w0:=by simp [execOp,hop,m1]
    rw [A_]at q1;injection q1 with q1 q1';subst q1 q1';obtain⟨len,cap,rfl,hcells⟩:=mt hx hy ak5.1 m1;have hR1:R F st1.toSt (a.put (some d) (.slice (some ⟨w.heap.size,0,none⟩) len cap)) w0 G1:=by
     rcases q2 with ⟨v,e,q⟩ | ⟨e,_⟩
     ·injection e with e;subst e;rw [hd]at q;exact q.less e2
     ·cases e
    obtain⟨G2,hR2⟩:=w2 _ _ _ _ hR1;have hsl:Ae w0 G2 (st2.toSt.get d) ((a.put (some d) (.slice (some ⟨w.heap.size,0,none⟩) len cap)).tmps.getD d Go.undef):=hR2.z_ d;rw [st2.aa6 d,hg]at hsl;have hsz:d<a.tmps.size:=by have:=hR2.size;simp only [Act.put,Array.size_setIfInBounds]at this;rw [this];show d<(AD st2.m st2.tm).length;rw [Bw];exact hb2
    have hpv:(a.put (some d) (.slice (some ⟨w.heap.size,0,none⟩) len cap)).tmps.getD d Go.undef= .slice (some ⟨w.heap.size,0,none⟩) len cap:=by simp_all [Act.put]
    rw [hpv]at hsl;simp only [DV.toV,DC.toC,Ae,Ah]at hsl;obtain⟨hmk,hlr,e,he1,he2,he3⟩:=CA hdr;have hE:e.toE=⟨id,some (E,T.sz E,l.length),l.flatMap (T.enc E),true⟩:=by simp_all [DE.toE,Bk,aG]
    have hm:e.toE∈st2.toSt.so:=mem_map.2 ⟨e,he1,rfl⟩;have hL:st2.toSt.Ti id=some e.toE:=hR2.aaa hm (by rw [hE]) hb1;have abn:G2.p_ id=some w.heap.size:=by have hS:=hR2.store _ hm;grind [Be]
    obtain⟨E1,n1',aj5,v1,ab_,ajb,g1,g2,g3,g4,g5,g6,g7,g8,g9⟩:=hR2.aes hL abn;rw [hE]at g9;obtain⟨us,r1,r2⟩:=g9.list;obtain⟨G3,hR3,aaz⟩:=hR2.alu hL (cs':=AC T E (List.length l:Nat) 0 l) (by grind [J6]) (SE l 0) abn (fun k c hk=>by
     rw [hE];rcases aL (by omega) hk with ⟨F1,m,cs,z1,z2⟩ | z
     ·right;obtain⟨v,y1,y2⟩:=iR r1 z2;have ab9:=r2 k v y1;rw [zero_add]at ab9;grind [AdC]
     grind)
    have ag8:Cn (st2.toSt.e_ (EL id) ((st2.toSt.so.map (Ax.e_ (EL id))).map (X_ id e.toE.row (AC T E (List.length l:Nat) 0 l)))) ((st2.Tp (EL id)).abx id (.deep E (List.length l:Nat) l none)).toSt :=by
     refine M6 ?_ ?_ ?_ (HQ n4.ok) ?_
     ·exact k1
     ·exact k2
     ·intro z hz;simp only [St.e_,mem_map];obtain⟨e3,h1,rfl⟩:=mem_map.1 hz;rcases acr n3.ok.nd h1 with ⟨h1,h2⟩ | h1
      ·obtain⟨d3,h3,h4,h5⟩:=f8 n2.ok (mem_map.2 ⟨e3,h1,rfl⟩);have axA:d3.id ≠ id:=by grind [Ax.E_,DE.toE_id]
       refine⟨d3.e_ (EL id),⟨d3,h3,rfl⟩,?_⟩;grind [Gu,Ax.E_]
      ·subst h1;refine⟨e.toE.e_ (EL id),⟨e.toE,hm,rfl⟩,?_⟩;rw [Gv (by rw [Ax.E_,hE]),Ax.E_,Ax.afr,hE];rfl
     ·show (st2.Tp (EL id)).pre =st2.pre;exact k4
    unfold Oper.wp;rw [A_];refine⟨_,G3,hK,?_⟩;rw [hd];exact hR3.less ag8
   ·exact Yl.no
  ·exact Yl.no
 ·exact Yl.no
end Go.PL
namespace Go.PL
open Go Go.RowKit
variable {T:Bj}
def Kj (c:DC T):(ks:List Kd)->DK T.den ks->Nat->Option (DK T.den ks)
 | .int k::_,y,0=>match IW false (.int k) c with
   | some x=>some (x,y.2)
   | none=>none
 | .bool ::_,y,0=>match IW false .bool c with
   | some x=>some (x,y.2)
   | none=>none
 | .str ::_,y,0=>match IW false .str c with
   | some x=>some (x,y.2)
   | none=>none
 | _::ks,y,p+1=>match Kj c ks y.2 p with
   | some z=>some (y.1,z)
   | none=>none
 | _,_,_=>none
theorem O0 {c:DC T}: ∀ {ks:List Kd} {y z:DK T.den ks} {p:Nat},Kj c ks y p=some z->
 BQ T ks z=(BQ T ks y).set p c.toC/\BD T.enc ks z=(BD T.enc ks y).set p c.toC/\p<ks.length/\c.toC.pure=true/\pi c.toC=true
 | [],_,_,_,h=>by simp [Kj]at h
 | .u_ F'::ks,y,z,0,h=>by simp [Kj]at h
 | .int k::ks,y,z,0,h=>by
   simp only [Kj]at h;split at h
   ·rename_i x hx;injection h with h;subst h;have:=(CR hx).2 rfl;rw [this];exact⟨rfl,rfl,by simp,rfl,rfl⟩
   ·cases h
 | .bool ::ks,y,z,0,h=>by
   simp only [Kj]at h;split at h
   ·rename_i x hx;injection h with h;subst h;have:=(CR hx).2 rfl;rw [this];exact⟨rfl,rfl,by simp,rfl,rfl⟩
   ·cases h
 | .str ::ks,y,z,0,h=>by
   simp only [Kj]at h;split at h
   ·rename_i x hx;injection h with h;subst h;have:=(CR hx).2 rfl;rw [this];exact⟨rfl,rfl,by simp,rfl,rfl⟩
   ·cases h
 | k::ks,y,z,p+1,h=>by
   have h:(match Kj c ks y.2 p with | some z=>some ((y.1,z):PT T.den k×DK T.den ks) | none=>none)=some z:=by cases k<;>simpa only [Kj] using h
   split at h
   ·rename_i z' hz;injection h with h;subst h;obtain⟨a,b,d,e,f⟩:=O0 hz;exact⟨by simp only [BQ,set_cons_succ];rw [a],by simp only [BD,set_cons_succ];rw [b],by simp;omega,e,f⟩
   ·cases h
theorem WY {E:Nat} {n:Int} {c:C} {p:Nat} {x':T.den E}: ∀ {l:List (T.den E)} {k:Int} {i:Nat} {x:T.den E},l[i]? =some x->T.aa2 E x'=(T.aa2 E x).set p c->T.enc E x'=(T.enc E x).set p c->p<T.sz E->(AC T E n k l).set (i*T.sz E+p) c=AC T E n k (l.set i x')
 | [],_,_,_,h,_,_,_=>by simp at h
 | y::l,k,0,x,h,hx,hx2,hp=>by
   simp only [getElem?_cons_zero,injEq]at h;subst h;rw [List.set_cons_zero,AC,AC,Nat.zero_mul,zero_add];by_cases hk:k<n
   all_goals simp_all [Ej,if_neg,AV]
 | y::l,k,i+1,x,h,hx,hx2,hp=>by
   have hl:(if k<n then T.aa2 E y else T.enc E y).length =T.sz E:=by grind [Ej,AV]
   rw [set_cons_succ,AC,AC,List.set_append_right _ _ (by rw [hl,add_mul,one_mul];omega),hl,show (i+1)*T.sz E+p - T.sz E=i*T.sz E+p by rw [add_mul,one_mul];omega];rw [WY (by simpa using h) hx hx2 hp]
def Dg (P:Program) (o:Oper) (st:Ai T):M (Ai T):=match o.op with
 | .store t x y=>match o.dst,st.arg [] x,st.arg [] y,KP P t with
   | none,some (.c (.rp id N i off)),some (.c c),some (false,1)=>match LV st id with
     | some ⟨E,(nn,l,none)⟩=>Ts (Fj id&&Nat.beq N (T.sz E)) (.opt (idx l i) fun x=>
      match Kj c (T.ks E) (T.un E x) off with
      | some z=> .ret (st.abx id (.deep E nn (l.set i.toNat (T.bd E z)) none))
      | none=> .no)
     | _=> .no
   | _,_,_,_=> .no
 | _=> .no
theorem AdF {H:Aw T} {P:Program} {I:World->Prop} {st:Ai T} (hw:AJ H st) {o:Oper}:Yl (Dg P o st) (fun a_=>(∃ H',Nx H st H' a_)/\a_.pre=st.pre/\ ∀ K:St->Prop,K a_.toSt->DW P I o st.toSt K):=by
 unfold Dg;split
 ·rename_i t x y hop;split
  ·rename_i id N i off c hd hx hy ht;split
   ·rename_i E nn l hdr;refine Yl.Ts fun hg=>Yl.opt fun xx hxx=>?_;simp only [and_eq_true,beq_eq]at hg;obtain⟨g1,g2⟩:=hg;subst g2;split
    ·rename_i z hz;obtain⟨i0,i1,hxi⟩:=Jc hxx;obtain⟨a1,a2,a3⟩:=Ke hw hx;obtain⟨b1,b2,b3⟩:=Ke hw hy;obtain⟨hmk,hlr,e,he1,he2,he3⟩:=CA hdr;obtain⟨z1,z2,acn,z3,z4⟩:=O0 hz;have hE:e.toE=⟨id,some (E,T.sz E,l.length),AC T E nn 0 l,true⟩:=by unfold DE.toE;rw [he3,he2];rfl
     have ai_:T.aa2 E (T.bd E z)=(T.aa2 E xx).set off c.toC:=by rw [Bj.aa2,T.aev,z1];rfl
     have axF:T.enc E (T.bd E z)=(T.enc E xx).set off c.toC:=by rw [<-T.aa0,T.aev,z2,T.aa0]
     have ahx:=WY (n:=nn) (k:=0) (x':=T.bd E z) (c:=c.toC) (p:=off) hxi ai_ axF acn;obtain⟨H2,n2⟩:=Ai.abk hw id (x:= .deep E nn (l.set i.toNat (T.bd E z)) none) trivial;refine Yl.ret ⟨⟨H2,n2⟩,rfl,fun K hK Fr a w G Q hI hR=>?_⟩;have hm:e.toE∈st.toSt.so:=mem_map.2 ⟨e,he1,rfl⟩;have hL:st.toSt.Ti id=some e.toE:=hR.aaa hm (by rw [hE]) g1;have hxv:=hR.arg rfl a2;rw [a3]at hxv;simp only [DV.toV,DC.toC,Ae,Ah]at hxv;obtain⟨b,hb1,hv⟩:=hxv;have hyv:=hR.arg rfl b2;rw [b3]at hyv;simp only [DV.toV,Ae]at hyv;have acK:=hyv.one;have hcl:(a.eval y).cells.toList =[a.eval y]:=by cases hq:a.eval y<;>rw [hq]at acK<;>first | rfl | cases acK
     have hc:Al w G [c.toC] (a.eval y).cells.toList :=by rw [hcl];exact⟨hyv,trivial⟩
     have hlen:e.toE.cs.length=l.length*T.sz E:=by grind [J6]
     have atv:off<T.sz E:=acn;have hk:i.toNat*T.sz E+off<e.toE.cs.length:=by rw [hlen];have:(i.toNat+1)*T.sz E<=l.length*T.sz E:=mul_le_mul_right _ (by omega);grind
     obtain⟨cur,T',c1,c2,c3⟩:=hR.acG hL hb1 (off:=i.toNat*T.sz E+off) hc (by simp;omega) (by simp [Ap,z3]) (by simp [z4]);have hs:=Eg (P:=P) ht c1 (by grind) c2 (Al.one hc);generalize w.setRow b _=w1 at hs c3;have A_:(execOp a.eval o).run P w= .ok .skip w1:=by simp_all [execOp]
     refine FG A_ ?_;rw [hd];refine⟨_,G,hK,c3.less ?_⟩;refine M6 (LK.refl _) (LK.refl _) ?_ (HQ n2.ok) rfl;intro u hu;obtain⟨e3,h1,rfl⟩:=mem_map.1 hu;rcases acr hw.nd h1 with ⟨h1,h2⟩ | h1
     ·exact mem_map.2 ⟨e3.toE,mem_map.2 ⟨e3,h1,rfl⟩,(by grind [Gu,DE.toE_id])⟩
     ·subst h1;refine mem_map.2 ⟨e.toE,hm,?_⟩;rw [Gv (by rw [hE])];show _=(⟨id,some (E,T.sz E,(l.set i.toNat (T.bd E z)).length),AC T E nn 0 (l.set i.toNat (T.bd E z)),true⟩:Ax);simp only [hE,length_set];simp_all [List.set_eq_take_append_cons_drop]
    ·exact Yl.no
   ·exact Yl.no
  ·exact Yl.no
 ·exact Yl.no
def dug (ks:List Nat) (st:Ai T):Ai T:=match st.gh with
 | []=>st
 | (m,tm)::r=>{st with gh:=(m,Hj ks tm)::r}
theorem AdG {H:Aw T} {st:Ai T} (hw:AJ H st) (ks:List Nat):(∃ H',Nx H st H' (dug ks st))/\(dug ks st).pre =st.pre/\Wk st.toSt (dug ks st).toSt :=by
 unfold dug;split
 ·exact⟨⟨H,Nx.refl hw⟩,rfl,Wk.less (Cn.refl _)⟩
 ·rename_i m tm r hg;have hn:Nx H st H {st with gh:=(m,Hj ks tm)::r}:=⟨C2.refl _ _,le_refl _,hw.tm,fun f hf=>by
   rcases mem_cons.1 hf with rfl | hf
   ·exact fun s t v hm=>hw.gh (m,tm) (by grind) s t v (MZ hm)
   ·exact hw.gh f (by grind),hw.so,hw.nd⟩
  refine⟨⟨H,hn⟩,rfl,Wk.less (M6 (LK.refl _) ?_ (fun _ h=>h) (HQ hn.ok) rfl)⟩;show LK (st.gh.flatMap fun f=>AD f.1 f.2) (((m,Hj ks tm)::r).flatMap fun f=>AD f.1 f.2);rw [hg,flatMap_cons,flatMap_cons];refine LK.append ?_ (LK.refl _);unfold AD;refine LK.map fun i _=>?_;rw [PW];split
  ·grind
  ·exact .inl rfl
end Go.PL
set_option linter.all false
namespace Go.PL
open Go Go.RowKit
variable {T:Bj}
def YH {P:Program} {I:World->Prop} (f:FuncId):List (CE T P I)->Option TypeId
 | []=>none
 | e::r=>match Nat.beq e.f f,e.ins with
   | true,some E=>some E
   | _,_=>YH f r
theorem SF {P:Program} {I:World->Prop} {f:FuncId} {E:TypeId}: ∀ {l:List (CE T P I)},YH f l=some E->WN P f E
 | [],h=>by cases h
 | e::r,h=>by
   unfold YH at h;split at h
   ·rename_i E' hb hE;injection h with h;subst h;rw [<-eq_of_beq_eq_true hb];exact e.apr _ hE
   ·exact SF h
def AfJ {P:Program} {I:World->Prop} {E:TypeId} (f:FuncId) (h:WN P f E):CE T P I where
 f:=f
 ps:=[]
 rs:=[]
 run:=fun _=>none
 ok:=(by grind)
 ins:=some E
 apr:=(by grind)
def xg (st:Ai T) (r:Ak) (E:Nat) (l m:List (T.den E)) (i:Int) (d:Nat):M (Ai T):=
 .opt (n_ (0<=i/\i<=(l.length:Nat)/\0<m.length/\(l.length+m.length)*8<=140737488355328)) fun _=>
  match st.new r (.row E (l.take i.toNat++(m++l.drop i.toNat)))with
  | some s=> .ret (s.put (some d) (.c (.c (.h_ r))))
  | none=> .no
theorem xh {H:Aw T} {P:Program} {I:World->Prop} {st:Ai T} (hw:AJ H st) {o:Oper} {f:FuncId} {x y z:Operand} {d:Nat} {r rv:Ak} {E:Nat} {l m:List (T.den E)} {i:Int} (hk:Ck o.op= .call f [x,y,z]) (hd:o.dst=some d) (g1:PL.ent P f=true) (hp:WN P f E) (g4:T.sz E=1) (hne:r ≠ rv)
 (hx:st.arg [] x=some (.c (.c (.h_ r)))) (hy:st.arg [] y=some (.c (.k (.int .i64) i))) (hz:st.arg [] z=some (.c (.c (.h_ rv)))) (hr:DO st r=some ⟨E,l⟩) (hrv:DO st rv=some ⟨E,m⟩):
 Yl (xg st r E l m i d) (fun a_=>(∃ H',Nx H st H' a_)/\a_.pre=st.pre/\ ∀ K:St->Prop,K a_.toSt->DW P I o st.toSt K):=by
 unfold xg;refine Yl.opt fun u hn=>?_;have hn:=Cz hn;split
 ·rename_i s hs;obtain⟨⟨H1,n1⟩,l1,p1⟩:=Ai.acB hw (show (DX.row E _:DX T).ok from trivial) hs;obtain⟨H2,n2⟩:=Ai.R_ n1 (some d) (v:= .c (.c (.h_ r))) (by simp only [DV.ok,DC.ok]);refine Yl.ret ⟨⟨H2,n2⟩,by rw [AW];exact p1,fun K hK=>?_⟩;obtain⟨_,a2,a3⟩:=Ke hw hx;obtain⟨_,b2,b3⟩:=Ke hw hy;obtain⟨_,c2,c3⟩:=Ke hw hz;obtain⟨h1,_,_⟩:=BU hr;obtain⟨h2,_,_⟩:=BU hrv;rw [g4]at h1 h2;have hlen: ∀ l:List (T.den E),(l.flatMap (T.enc E)).length =l.length:=fun l=>by rw [mr (fun y=>AV E y),g4,Nat.mul_one]
  have ht: ∀ (l:List (T.den E)) (j:Nat),(l.flatMap (T.enc E)).take j=(l.take j).flatMap (T.enc E):=fun l j=>by have:=He (fun y=>AV E y) l j;grind
  have hdp: ∀ (l:List (T.den E)) (j:Nat),(l.flatMap (T.enc E)).drop j=(l.drop j).flatMap (T.enc E):=fun l j=>by have:=Jq (fun y=>AV E y) l j;grind
  have hE:(⟨r,0, .row E (l.take i.toNat++(m++l.drop i.toNat))⟩:DE T).toE =⟨r,some (E,1,l.length+m.length),(l.flatMap (T.enc E)).take i.toNat++m.flatMap (T.enc E)++(l.flatMap (T.enc E)).drop i.toNat,true⟩:=by show (⟨r,some (E,T.sz E,(l.take i.toNat++(m++l.drop i.toNat)).length),(l.take i.toNat++(m++l.drop i.toNat)).flatMap (T.enc E),true⟩:Ax)=_;grind
  refine DW.ins (K:=K) hk g1 hp (fun Fr a w G hR=>?_) (fun Fr a w G hR=>?_) (fun Fr a w G hR=>?_) h1 h2 hne ⟨hn.1,hn.2.1⟩ hn.2.2.1 hn.2.2.2 (by rw [<-hE];exact l1) (by grind [Ai.k_,DV.toV,DC.toC])
  ·have:=hR.arg rfl a2;grind [DV.toV,DC.toC]
  ·have:=hR.arg rfl b2;grind [DV.toV,DC.toC,Bz]
  ·have:=hR.arg rfl c2;simp_all [DV.toV,DC.toC]
 ·exact Yl.no
def AdH {P:Program} {I:World->Prop} (Γ:List (CE T P I)) (o:Oper) (st:Ai T):M (Ai T):=match Ck o.op,o.dst with
 | .call f [x,y,z],some d=>match st.arg [] x,st.arg [] y,st.arg [] z,YH f Γ with
   | some (.c (.c (.h_ r))),some (.c (.k (.int .i64) i)),some (.c (.c (.h_ rv))),some E0=>match DO st r,DO st rv with
     | some ⟨E,l⟩,some ⟨E',m'⟩=>match f0 E E' m' with
       | some m=>Ts ((PL.ent P f&& !Bi r rv)&&(Nat.beq E0 E&&Nat.beq (T.sz E) 1)) (xg st r E l m i d)
       | none=> .no
     | _,_=> .no
   | _,_,_,_=> .no
 | _,_=> .no
theorem Aaz {H:Aw T} {P:Program} {I:World->Prop} {Γ:List (CE T P I)} {st:Ai T} (hw:AJ H st) {o:Oper}:Yl (AdH Γ o st) (fun a_=>(∃ H',Nx H st H' a_)/\a_.pre=st.pre/\ ∀ K:St->Prop,K a_.toSt->DW P I o st.toSt K):=by
 unfold AdH;split
 ·rename_i f x y z d hk hd;split
  ·rename_i r i rv E0 hx hy hz hp;split
   ·rename_i E l E' m' hr hrv;split
    ·rename_i m hm;refine Yl.Ts fun hg=>?_;simp only [and_eq_true,beq_eq,not_eq_true']at hg;obtain⟨⟨g1,g2⟩,g3,g4⟩:=hg;subst g3;obtain⟨e,hme⟩:=M4 hm;subst e;subst hme;exact xh hw hk hd g1 (SF hp) g4 (fun q=>by rw [AP.2 q]at g2;cases g2) hx hy hz hr hrv
    ·exact Yl.no
   ·exact Yl.no
  ·exact Yl.no
 ·exact Yl.no
end Go.PL
