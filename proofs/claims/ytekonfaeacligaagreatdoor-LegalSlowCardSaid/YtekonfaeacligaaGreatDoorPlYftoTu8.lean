/- The pure logic: PlYf, PlYg, Tj, Tk, Tl, Tm, Tn, To, Tt, Tu, Tu2, Tu3, Tu4, Tu5, Tu6, Tu7, Tu8. -/
import Derived.Test.YtekonfaeacligaaGreatDoorPlPhtoPlYe
import Derived.Test.YtekonfaeacligaaGreatDoorPlRtoPlPg
open Option.some (injEq)
open List (mem_map mem_cons map_cons flatMap_cons nil_append mem_singleton cons_append append_assoc all_cons map_map mem_filter set_cons_succ append_nil nodup_cons getElem?_append_right getElem?_cons_zero map_congr_left length_append flatMap_append map_append mem_append length_set all_nil map_nil)
open Bool (and_eq_true)
open Nat (eq_of_beq_eq_true beq_eq add_mul le_succ le_refl mul_le_mul_right zero_add one_mul add_zero)
open Option (getD_none getD_some)
open Int (toNat_natCast)
set_option linter.all false
namespace Go.PL
open Go Go.RowKit
section
variable {F:Fr} {st:St} {a:Act} {w:World} {G:Ax}
theorem ZZ {w:World} {G:Ax}: ∀ {cs:List C} {vs:List Value} {k:Nat} {c:C},Ae w G cs vs->cs[k]? =some c-> ∃ v,vs[k]? =some v/\Ab w G c v
 | [],_,_,_,_,h=>by simp at h
 | _::_,[],_,_,h,_=>by simp only [Ae]at h
 | c::cs,v::vs,0,d,h,hk=>by simp only [Ae]at h;grind
 | c::cs,v::vs,k+1,d,h,hk=>by simp only [Ae]at h;obtain⟨u,h1,h2⟩:=ZZ h.2 (by simpa using hk);exact⟨u,by simpa using h1,h2⟩
theorem R.af_ (h:R F st a w G) {id:Ad} {e:Ar} (hl:st.u_ id=some e) {Tk:List C} (hlen:Tk.length=e.cs.length) (hp:Al Tk=true) {b:Nat} (hb:G.blk id=some b)
 (hc: ∀ k c,Tk[k]? =some c->(e.cs[k]? =some c/\hZ c=true)\/ ∃ E n,c= .isl E n 0 []/\w.cell? ⟨b,k,none⟩=some (.slice none 0 0)):
 ∃ G',R F (st.a_ (C4 id) ((st.so.map (Ar.a_ (C4 id))).map (C_ id e.row Tk))) a w G'/\G'.own id=G.own id:=by
 obtain⟨hm,hid,hd,hmk,hpu,hpe,hi,E0,n0,adt,hr0⟩:=h.W_ hl;let G':Ax:=⟨fun i=>if C4 id i=true then none else G.blk i,fun i=>if C4 id i=true then some (.slice none 0 0)else G.own i,fun b=>F.av b\/ ∃ i,(if C4 id i=true then none else G.blk i)=some b⟩;have hag: ∀ i,C4 id i=false->G'.blk i=G.blk i/\G'.own i=G.own i:=(by grind);have hno:C4 id id=false:=by grind [En]
 have t:aaL F (C4 id) (fun _=>false) G G' w w:=EV h G' rfl hag (by grind) (fun i j b hib hjb=>by
  simp only [G']at hib hjb;split at hib
  ·cases hib
  ·split at hjb
   ·cases hjb
   ·exact h.inj _ _ b hib hjb)
 obtain⟨E1,n1,aeK,v1,aax,adZ,g1,g2,g3,g4,g5,g6,g7,g8,g9⟩:=h.abv hl hb;obtain⟨us,r1,r2⟩:=g9.list;have aop: ∀ cs:List C,Al cs=true->GJ (fun i=>Bm i cs=true) G G':=fun cs hp i M_=>absurd (show Bm i cs=true from M_) (by rw [AL i cs hp];simp);have m_:Ai w G' Tk b 0:=by
  have:=ve (f:=_root_.id) (cs:=Tk) (b:=b) (o:=0) (w:=w) (G:=G') (fun k c hk=>by
   rcases hc k c hk with ⟨q1,q2⟩ | ⟨E,n,q1,q2⟩
   ·obtain⟨u,k1,k2⟩:=ZZ (Ae.mono t.keeps _ _ (aop _ hpe) r1) q1;exact⟨u,by rw [zero_add];have:=r2 k u k1;grind,k2⟩
   ·refine⟨.slice none 0 0,by grind,?_⟩;rw [q1];simp only [_root_.id,Ab];rfl)
  simp_all
 have aca:AN w G' ⟨id,e.row,Tk,true⟩:=by unfold AN;rw [g1];exact⟨by grind,v1,by grind, .inr ⟨b,aax,adZ,g4,by grind,g5,g6,g7,g8,m_⟩⟩
 have hin:Dw w G' ⟨id,e.row,Tk,true⟩:=by
  intro j E2 n2 aag cs2 hj;rcases hc j _ hj with ⟨_,q2⟩ | ⟨E,n,q1,q2⟩
  ·cases q2
  ·injection q1 with q1 q3 q4 q5;subst q1 q3 q4 q5;have ho:G'.own (Bi j id)=some (.slice none 0 0)/\G'.blk (Bi j id)=none:=by grind [FR]
   refine⟨rfl,?_,b,_,by grind,q2,ho.1⟩;unfold AN;grind
 have E_:=t.afx h hl (fun _=>true) (fun d Y_ _ abD=>by
  have h1:C4 id d.id=false:=by
   cases q:C4 id d.id with
   | false=>rfl
   | true=>have:=En q;rw [(h.deep d Y_).1]at this;cases this
  exact⟨h1,rfl,fun _ k=>⟨by grind [FR],rfl⟩⟩) (by rw [g1];rfl) aca hin hp
 rw [HU]at E_;exact⟨G',t.acj h _ E_.1 E_.2.1 E_.2.2.1 E_.2.2.2,(hag id hno).2⟩
end
end Go.PL
namespace Go.PL
open Go Go.RowKit
theorem R.agB {F:Fr} {st:St} {a:Act} {w w':World} {G:Ax} (h:R F st a w G) {id:Ad} {e:Ar} (he:st.look id=some e) {E n len aaA:Nat}
 {v v':Value} {xs us:List Value} {cs:List C} (hq:Al cs=true) (hob:v.ownBlock=G.blk id) (h2:Ae w G cs us)
 (hold:w.ownsRow 0 E n v len xs) (J_:w'.ownsRow 0 E n v' aaA us) (hg:w.grownBy w' v.ownBlock) (hfr:v'.ownBlock=v.ownBlock\/ ∀ b,v'.ownBlock=some b->w.heap.size<=b):
 ∃ G',R F (st.new ⟨id,some (E,n,aaA),cs,true⟩) a w' G'/\G'.own id=some v'/\v'.oneCell'=true:=by
 obtain⟨hm,hid⟩:=AZ he;have aad: ∀ b,b<w.heap.size->G.blk id ≠ some b->w'.heap[b]? =w.heap[b]? :=fun b hb n_=>hg.block b hb (by grind);have hn: ∀ b,v'.ownBlock=some b->w.heap.size<=b\/(G.blk id=some b/\BU w w' b):=by
  intro b hb;rcases hfr with q | q
  ·refine .inr ⟨by grind,?_⟩;have hb2:v.ownBlock=some b:=by grind
   intro cur T fz hc;rcases J_.2 with ⟨r,_⟩ | ⟨g,cap,acb,r,_,r2,_⟩
   ·rw [r]at hb;cases hb
   ·rw [r]at hb;simp only [Value.ownBlock,injEq]at hb;subst hb;rcases hold.2 with ⟨r3,_⟩ | ⟨g3,ams,amr,r3,_,r4,_⟩
    all_goals grind [Value.ownBlock]
  grind
 have Tw: ∀ b,v'.ownBlock=some b->b<w'.heap.size:=fun b hb=>(J_.lt b hb).2;have aa3:v'.oneCell'=true:=by rcases J_.2 with ⟨q,_⟩ | ⟨g,cap,cur,q,_⟩<;>rw [q]<;>rfl
 refine⟨Bv F G id v'.ownBlock (some v'),?_,by simp [Bv],aa3⟩;have hk:=h.keeps id v'.ownBlock (some v') hg.size aad hn;have alX:=Fh (row:=some (E,n,aaA)) (pu:=true) h hk (fun _=>hq) h2;refine h.set ⟨id,some (E,n,aaA),cs,true⟩ v'.ownBlock (some v') ⟨hg.os,hg.tape,hg.output⟩ hg.size aad ?_ (by grind) (fun _=>hq) ?_
 ·intro b hb aiy;refine aad b (Nat.lt_of_lt_of_le hb h.hsize) (fun q=>?_);rcases h.new id b q with q2 | q2
  all_goals grind
 ·have hl2:=h2.length;have hln:=J_.1;refine IR (Ar.abl _ _) ⟨by grind [KK],v',by simp [Bv,Ar.x_],?_⟩;rcases J_.2 with ⟨q,h0⟩ | ⟨g,cap,cur,q,_,q2,q3,q4,q5,q6⟩
  ·simp_all [Bv,Value.ownBlock,Ar.x_]
  ·refine .inr ⟨g,cap,cur,q,by simp [Bv,q,Value.ownBlock,Ar.x_],q2,q3,q4,q5,?_⟩;grind [Ai.U_,Bp,List.take_append_drop]
def lU (P:Program) (f:FuncId) (E:TypeId):Prop:=
 ∀ (w:World) (v:Value) (n i vb m vc:Nat) (xs us:List Value) (cur:Array Value) (T:TypeId) (row:Option Nat),
   (w.ownsRow 0 E 1 v n xs/\row=v.ownBlock\/ ∃ p,v= .slice (some p) 0 0/\n=0/\xs=[]/\row=none)->i<=n->0<m->(∀ u∈xs,u.oneCell'=true)->(∀ u∈us,u.oneCell'=true)->us.length=m->(n+m)*8<=140737488355328->m<=vc->cur.size=vc->
   row ≠ some vb->w.heap[vb]? =some (.cells cur T (0,0))->cur.toList.take m=us->
   Calls P f #[v, .int .i64 i, .slice (some ⟨vb,0,none⟩) m vc] w fun e w'=> ∃ v',e= .returned v'/\w'.ownsRow 0 E 1 v' (n+m) (xs.take i++us++xs.drop i)/\
    w.grownBy w' row/\(v'.ownBlock=row\/ ∀ b,v'.ownBlock=some b->w.heap.size<=b)
theorem El.ins {P:Program} {I:World->Prop} {o:Oper} {st:St} {K:St->Prop} {f:FuncId} {x y z:Operand} {r rv:Ad} {E len m:Nat} {cs ds:List C} {i:Int} (hk:BC o.op= .call f [x,y,z]) (aao:ent P f=true) (aoG:lU P f E)
 (hx: ∀ Fr a w G,R Fr st a w G->Aa w G (.c (.l_ r)) (a.eval x)) (hy: ∀ Fr a w G,R Fr st a w G->Aa w G (.c (.int .i64 i)) (a.eval y)) (hz: ∀ Fr a w G,R Fr st a w G->Aa w G (.c (.l_ rv)) (a.eval z))
 (hl:st.look r=some ⟨r,some (E,1,len),cs,true⟩) (hl2:st.look rv=some ⟨rv,some (E,1,m),ds,true⟩) (n_:r ≠ rv) (hi:0<=i/\i<=(len:Nat)) (hm:0<m) (ajy:(len+m)*8<=140737488355328)
 {s1:St} (hls:B0 (st.new ⟨r,some (E,1,len+m),cs.take i.toNat++ds++cs.drop i.toNat,true⟩) s1) (hK:K (s1.put o.dst (.c (.l_ r)))):El P I o st K:=by
 intro F a w G Q hI hR;have hr:=N1 (a:=a) hk aao w;unfold Oper.wp Oper.upon;rw [hr];obtain⟨hm1, -⟩:=AZ hl;obtain⟨hm2, -⟩:=AZ hl2;have H_:=hx F a w G hR;have hyv:=hy F a w G hR;have hzv:=hz F a w G hR;simp only [Aa,Ab]at H_ hyv hzv;obtain⟨v,xs,k1,k2,k3,k4⟩:=C8 (e:=⟨r,some (E,1,len),cs,true⟩) rfl (hR.store _ hm1);obtain⟨u,us,q1,q2,q3,q4⟩:=C8 (e:=⟨rv,some (E,1,m),ds,true⟩) rfl (hR.store _ hm2);have hxe:a.eval x=v:=by grind
 have hze:a.eval z=u:=by grind
 have hye:a.eval y= .int .i64 i:=hyv;have ajA:([x,y,z].map a.eval).toArray = #[v, .int .i64 i,u]:=by grind
 rw [ajA];obtain⟨j,hj⟩: ∃ j:Nat,i=(j:Int):=(by grind);subst hj;simp only [toNat_natCast]at hls;rcases q4 with ⟨q4,q5⟩ | ⟨p,_,q0,_⟩
 rotate_left
 ·omega
 rcases q4.2 with ⟨_,q0⟩ | ⟨vb,vc,cur,rfl,_,c1,c2,c3,c4,c5⟩
 ·omega
 simp only [Nat.mul_one]at c4 c5;have hrv:G.blk rv=some vb:=q5.symm;have hlx:xs.length=len:=by
  have h5:cs.length=len*1:=by have:=hR.store _ hm1;grind [AN]
  have h6:cs.length=xs.length:=k3.length;omega
 have hlu:us.length=m:=by grind
 have hold:(w.ownsRow 0 E 1 v len xs/\G.blk r=v.ownBlock\/ ∃ p,v= .slice (some p) 0 0/\len=0/\xs=[]/\G.blk r=none):=by grind
 refine(aoG w v len j vb m vc xs us cur E (G.blk r) hold (by omega) hm (Ae.one k3) (Ae.one q3) hlu ajy c2 c4 (fun q=>n_ (hR.inj _ _ _ q hrv)) c1 c5).mono fun e w' ⟨v',he,h1,h2,h3⟩=>?_;subst he;have aca:Ae w G (cs.take j++ds++cs.drop j) (xs.take j++us++xs.drop j):=((k3.take j).append q3).append (k3.drop j);have hp:Al (cs.take j++ds++cs.drop j)=true:=by have p1:Al cs=true:=hR.k_ _ hm1 rfl;have p2:Al ds=true:=hR.k_ _ hm2 rfl;grind [By]
 have fin: ∃ G',R F (st.new ⟨r,some (E,1,len+m),cs.take j++ds++cs.drop j,true⟩) a w' G'/\G'.own r=some v'/\v'.oneCell'=true:=by
  rcases hold with ⟨g1,g2⟩ | ⟨p,g1,g2,g3,g4⟩
  ·exact R.agB hR hl hp g2.symm aca g1 h1 (by grind) (by grind)
  ·rw [g4]at h2 h3;exact R.agB hR hl (v:= .slice none 0 0) (len:=0) (xs:=[]) hp (by rw [g4];rfl) aca ⟨by simp, .inl ⟨rfl,rfl⟩⟩ h1 h2 h3
 obtain⟨G',g1,g2,g3⟩:=fin;exact⟨_,G',hK,(g1.less hls).put (by simp_all [Aa,Ab])⟩
end Go.PL
namespace Go.PL
open Go Go.RowKit
variable {T:AX}
inductive VT where
 | k (kd:Kd)
 | s (E:Nat)
 | f (g:FuncId)
def Dj (T:AX):VT->Type
 | .k kd=>L5 T.den kd
 | .s E=>T.den E
 | .f _=>Unit
def yA (T:AX):(k:Kd)->L5 T.den k
 | .int _=>(default:Int)
 | .bool =>(default:Bool)
 | .str =>(default:List UInt8)
 | .w_ E=>(default:List (T.den E))
def yB (T:AX):(t:VT)->Dj T t
 | .k kd=>yA T kd
 | .s E=>(T.inh E).default
 | .f _=>()
def MK:(t:VT)->Dj T t->DV T
 | .k kd,x=> .c (.k kd x)
 | .s E,x=> .agg (ZU E x)
 | .f g,_=> .c (.c (.fn g))
def Dk:(t:VT)->Dj T t->V
 | .k kd,x=> .c (AW T.enc kd x)
 | .s E,x=> .agg (T.enc E x)
 | .f g,_=> .c (.fn g)
theorem L7 (t:VT) (x:Dj T t):(MK t x).toV =Dk t x:=by
 cases t with
 | k kd=>simp only [MK,DV.toV,DC.toC,Dk]
 | s E=>exact congrArg V.agg (Eo E x)
 | f g=>simp only [MK,DV.toV,DC.toC,Dk]
theorem Oj {H:Aq T} {nx:Nat} (t:VT) (x:Dj T t):(MK t x).ok H nx:=by cases t<;>grind [MK,DV.ok,DC.ok,JA]
def asC:DV T->Option (DC T)
 | .c x=>some x
 | _=>none
def asA:DV T->Option (List (DC T))
 | .agg cs=>some cs
 | _=>none
def Z0 (kd:Kd) (v:DV T):Option (L5 T.den kd):=match asC v with
 | some x=>Fz false kd x
 | none=>none
def aeB (E:Nat) (v:DV T):Option (T.den E):=match asA v with
 | some cs=>pY false E cs
 | none=>none
def i9 (g:FuncId):DV T->Option Unit
 | .c (.c (.fn g'))=>match Nat.beq g' g with
   | true=>some ()
   | false=>none
 | _=>none
def rn:(t:VT)->DV T->Option (Dj T t)
 | .k kd,v=>Z0 kd v
 | .s E,v=>aeB E v
 | .f g,v=>i9 g v
theorem UH {v:DV T} {x:DC T} (h:asC v=some x):v= .c x:=by unfold asC at h;grind
theorem UI {v:DV T} {x:List (DC T)} (h:asA v=some x):v= .agg x:=by unfold asA at h;grind
theorem lV {kd:Kd} {v:DV T} {x:L5 T.den kd} (h:Z0 kd v=some x):v.toV= .c (AW T.enc kd x):=by
 unfold Z0 at h;split at h
 ·rename_i y hy;rw [UH hy];simp only [DV.toV,(BP h).2 rfl]
 ·cases h
theorem vT {E:Nat} {v:DV T} {x:T.den E} (h:aeB E v=some x):v.toV= .agg (T.enc E x):=by
 unfold aeB at h;split at h
 ·rename_i y hy;rw [UI hy];simp only [DV.toV,(FA h).2 rfl]
 ·cases h
theorem vU {g:FuncId} {v:DV T} {x:Unit} (h:i9 g v=some x):v.toV= .c (.fn g):=by unfold i9 at h;grind [eq_of_beq_eq_true,DV.toV,DC.toC]
theorem UJ {t:VT} {v:DV T} {x:Dj T t} (h:rn t v=some x):v.toV=Dk t x:=by
 cases t with
 | k kd=>exact lV h
 | s E=>exact vT h
 | f g=>exact vU h
def XS (T:AX):List VT->Type
 | []=>Unit
 | t::ts=>Dj T t×XS T ts
def Ep:(ts:List VT)->XS T ts->List V
 | [],_=>[]
 | t::ts,x=>Dk t x.1::Ep ts x.2
def P6:(ts:List VT)->List (DV T)->Option (XS T ts)
 | [],[]=>some ()
 | t::ts,v::vs=>match rn t v,P6 ts vs with
   | some x,some y=>some (x,y)
   | _,_=>none
 | _,_=>none
theorem Rr: ∀ {ts:List VT} {vs:List (DV T)} {x:XS T ts},P6 ts vs=some x->AQ vs=Ep ts x
 | [],[],x,_=>by simp only [AQ,Ep]
 | [],_::_,_,h=>by simp [P6]at h
 | _::_,[],_,h=>by simp [P6]at h
 | t::ts,v::vs,x,h=>by
   unfold P6 at h;split at h
   ·rename_i a b h1 h2;injection h with h;subst h;simp only [AQ,Ep,UJ h1,Rr h2]
   ·cases h
def RT (T:AX):List VT->Type
 | []=>Unit
 | [t]=>Dj T t
 | t::u::ts=>Dj T t×RT T (u::ts)
def yC (T:AX):(ts:List VT)->RT T ts
 | []=>()
 | [t]=>yB T t
 | t::u::ts=>(yB T t,yC T (u::ts))
instance (ts:List VT):Inhabited (RT T ts):=⟨yC T ts⟩
def BQ:(ts:List VT)->RT T ts->List (DV T)
 | [],_=>[]
 | [t],x=>[MK t x]
 | t::u::ts,x=>MK t x.1::BQ (u::ts) x.2
def P7:(ts:List VT)->RT T ts->DV T
 | [],_=> .tup []
 | [t],x=>MK t x
 | t::u::ts,x=> .tup (BQ (t::u::ts) x)
def BL:(ts:List VT)->RT T ts->List V
 | [],_=>[]
 | [t],x=>[Dk t x]
 | t::u::ts,x=>Dk t x.1::BL (u::ts) x.2
def F8:(ts:List VT)->RT T ts->V
 | [],_=> .tup []
 | [t],x=>Dk t x
 | t::u::ts,x=> .tup (BL (t::u::ts) x)
theorem UK: ∀ (ts:List VT) (x:RT T ts),AQ (BQ ts x)=BL ts x
 | [],_=>by simp only [BQ,AQ,BL]
 | [t],x=>congrArg (fun z=>[z]) (L7 t x)
 | t::u::ts,x=>by simp only [BQ,AQ,BL,L7,UK (u::ts)]
theorem Ld: ∀ (ts:List VT) (x:RT T ts),(P7 ts x).toV =F8 ts x
 | [],_=>by simp only [P7,DV.toV,F8,AQ]
 | [t],x=>L7 t x
 | t::u::ts,x=>by simp only [P7,DV.toV,F8,UK]
theorem P8 {H:Aq T} {nx:Nat}: ∀ (ts:List VT) (x:RT T ts),B7 H nx (BQ ts x)
 | [],_=>by simp only [BQ,B7]
 | [t],x=>by simp only [BQ,B7,and_true];exact Oj t x
 | t::u::ts,x=>by simp only [BQ,B7,Oj,P8 (u::ts),and_self]
theorem Ol {H:Aq T} {nx:Nat}: ∀ (ts:List VT) (x:RT T ts),(P7 ts x).ok H nx
 | [],_=>by simp only [P7,DV.ok,B7]
 | [t],x=>Oj t x
 | t::u::ts,x=>by grind [P7,DV.ok,P8]
def Z1:Kd->Bool
 | .w_ _=>false
 | _=>true
def P9 (T:AX):VT->Bool
 | .k kd=>Z1 kd
 | .s E=>(T.ks E).all Z1
 | .f _=>true
theorem UL {den:Nat->Type} {enc: ∀ E,den E->List C}: ∀ (ks:List Kd) (y:DK den ks),(Bd enc ks y).all C.flat=ks.all Z1
 | [],_=>rfl
 | k::ks,y=>by simp only [Bd,all_cons,UL ks];cases k<;>rfl
theorem Nq (t:VT) (x:Dj T t):(Dk t x).flat =P9 T t:=by
 cases t with
 | k kd=>cases kd<;>rfl
 | s E=>
   show (T.enc E (show T.den E from x)).all C.flat=(T.ks E).all Z1;rw [<-T.V_,UL]
 | f g=>rfl
theorem Rs: ∀ (ts:List VT) (x:RT T ts),Ik (BL ts x)=ts.all (P9 T)
 | [],_=>by simp [BL,Ik]
 | [t],x=>by simp only [BL,Ik,all_cons,all_nil,Bool.and_true];exact Nq t x
 | t::u::ts,x=>by simp only [BL,Ik,Nq,Rs (u::ts),all_cons]
theorem IZ: ∀ (ts:List VT) (x:RT T ts),(F8 ts x).flat =ts.all (P9 T)
 | [],_=>by simp [F8,V.flat,Ik]
 | [t],x=>by simp only [F8,all_cons,all_nil,Bool.and_true];exact Nq t x
 | t::u::ts,x=>by simp only [F8,V.flat,Rs]
def Hh (m:Nat):(k:Kd)->L5 T.den k->List OE
 | .w_ E,l=>match m with
   | 1=>[⟨false,E,T.sz E,List.length l,List.flatMap (T.enc E) l⟩]
   | 2=>[⟨true,E,T.sz E,List.length l,Av T E (List.length l:Nat) 0 l⟩]
   | _=>[]
 | _,_=>[]
def MC (m:Nat):Kd->Nat
 | .w_ _=>match m with
   | 1=>1
   | 2=>1
   | _=>0
 | _=>0
def ML (m j:Nat) (k:Kd) (x:L5 T.den k):PC:=match MC m k with
 | 0=> .c (AW T.enc k x)
 | _=> .o j
def UM (m:Nat) (id:Ad) (k:Kd):List Ad:=match MC m k with
 | 0=>[]
 | _=>match m with
   | 2=>[1000003::id]
   | _=>[id]
def BM:List Nat->(ks:List Kd)->DK T.den ks->List OE
 | m::ms,k::ks,x=>Hh m k x.1++BM ms ks x.2
 | _,_,_=>[]
def DN:List Nat->Nat->(ks:List Kd)->DK T.den ks->List PC
 | m::ms,j,k::ks,x=>ML m j k x.1::DN ms (j+MC m k) ks x.2
 | [],j,k::ks,x=> .c (AW T.enc k x.1)::DN [] j ks x.2
 | _,_,[],_=>[]
def I1:List Nat->Nat->Ad->List Kd->List Ad
 | m::ms,i,p_,k::ks=>UM m (i::p_) k++I1 ms (i+1) p_ ks
 | _,_,_,_=>[]
def DO:List Nat->List Kd->Nat
 | m::ms,k::ks=>MC m k+DO ms ks
 | _,_=>0
def DH (T:AX):VT->List Kd
 | .k kd=>[kd]
 | .s E=>T.ks E
 | .f _=>[]
def Le:(t:VT)->Dj T t->DK T.den (DH T t)
 | .k _,x=>(x,())
 | .s E,x=>T.un E x
 | .f _,_=>()
def F2 (m:List Nat) (j:Nat):(t:VT)->Dj T t->PP
 | .k kd,x=> .c (ML (m.headD 0) j kd x)
 | .s E,x=> .a (DN m j (T.ks E) (T.un E x))
 | .f g,_=> .c (.c (.fn g))
def CG:List (List Nat)->(ts:List VT)->RT T ts->List OE
 | m::_,[t],x=>BM m (DH T t) (Le t x)
 | m::ms,t::u::ts,x=>BM m (DH T t) (Le t x.1)++CG ms (u::ts) x.2
 | _,_,_=>[]
def Bs:List (List Nat)->Nat->(ts:List VT)->RT T ts->List PP
 | m::_,j,[t],x=>[F2 m j t x]
 | [],j,[t],x=>[F2 [] j t x]
 | m::ms,j,t::u::ts,x=>F2 m j t x.1::Bs ms (j+DO m (DH T t)) (u::ts) x.2
 | [],j,t::u::ts,x=>F2 [] j t x.1::Bs [] j (u::ts) x.2
 | _,_,[],_=>[]
def UN (T:AX):List (List Nat)->Nat->Ad->List VT->List Ad
 | m::ms,p,p_,t::ts=>I1 m 0 (p::p_) (DH T t)++UN T ms (p+1) p_ ts
 | _,_,_,_=>[]
structure CE (T:AX) (P:Program) (I:World->Prop) where
 f:FuncId
 ps:List VT
 rs:List VT
 run:XS T ps->Option (RT T rs)
 ok: ∀ x r,run x=some r->Cm P I f (Ep ps x) (· =F8 rs r)
 ow:List (List Nat):=[]
 okx:ow ≠ []-> ∀ x r,run x=some r->La P I f (Ep ps x) (CG ow rs r) (Bs ow 0 rs r):=by exact fun h=>absurd rfl h
 ins:Option TypeId:=none
 alf: ∀ E,ins=some E->lU P f E:=by exact fun _ h=>nomatch h
 tab:Option (Nat×List (List UInt8)):=none
 akG: ∀ g t,tab=some (g,t)->ZS I g t:=by exact fun _ _ h=>nomatch h
def Nr {P:Program} {I:World->Prop} (f:FuncId) (ws:List (DV T)):List (CE T P I)->Option ((e:CE T P I)×XS T e.ps)
 | []=>none
 | e::r=>match Nat.beq e.f f with
   | true=>match P6 e.ps ws with
     | some x=>some ⟨e,x⟩
     | none=>Nr f ws r
   | false=>Nr f ws r
theorem Ee {P:Program} {I:World->Prop} {f:FuncId} {ws:List (DV T)}: ∀ {l:List (CE T P I)} {e:CE T P I} {x:XS T e.ps},Nr f ws l=some ⟨e,x⟩->e.f=f/\AQ ws=Ep e.ps x
 | [],_,_,h=>by cases h
 | a::r,e,x,h=>by
   unfold Nr at h;split at h
   ·rename_i hb;split at h
    ·rename_i y hy;injection h with h;injection h with h1 h2;subst h1;have h2:=eq_of_heq h2;grind [eq_of_beq_eq_true,Rr]
    ·exact Ee h
   ·exact Ee h
def Z2 (st:Ac T) (c:DC T):Option (DC T):=match HV c with
 | some id=>match CI st id with
   | some ⟨E,l⟩=>some (.k (.w_ E) l)
   | none=>none
 | none=>some (UA c)
def UO (st:Ac T):List (DC T)->Option (List (DC T))
 | []=>some []
 | c::cs=>match Z2 st c,UO st cs with
   | some d,some ds=>some (d::ds)
   | _,_=>none
def Z3 (st:Ac T):DV T->Option (DV T)
 | .c x=>match Z2 st x with
   | some y=>some (.c y)
   | none=>none
 | .agg cs=>match UO st cs with
   | some ds=>some (.agg ds)
   | none=>none
 | _=>none
def JC (st:Ac T):List (DV T)->Option (List (DV T))
 | []=>some []
 | v::vs=>match Z3 st v,JC st vs with
   | some d,some ds=>some (d::ds)
   | _,_=>none
def lW (c:DC T):List Ad:=match HV c with
 | some id=>[id]
 | none=>[]
def Yk:List (DC T)->List Ad
 | []=>[]
 | c::cs=>lW c++Yk cs
def lX:DV T->List Ad
 | .c x=>lW x
 | .agg cs=>Yk cs
 | _=>[]
def Om:List (DV T)->List Ad
 | []=>[]
 | v::vs=>lX v++Om vs
theorem JD {c:DC T} (h:HV c=none): ∀ id,c.toC ≠ .l_ id:=fun i he=>by
 cases c with
 | c x=>grind [DC.toC,HV]
 | k kd x=>cases kd<;>simp [DC.toC,AW]at he
 | ip=>simp [DC.toC]at he
 | rp=>simp [DC.toC]at he
 | ap=>simp [DC.toC]at he
 | bs=>simp [DC.toC]at he
 | clo b f cs=>cases b<;>simp [DC.toC]at he
theorem Rt {st:Ac T} {c d:DC T} (h:Z2 st c=some d):HS st.toSt c.toC=d.toC:=by
 unfold Z2 at h;split at h
 ·rename_i id ho;have:=Di ho;subst this;split at h
  ·rename_i E l hr;injection h with h;subst h;simp only [DC.toC,HS,(Bg hr).1,AW,if_true]
  ·cases h
 ·rename_i ho;injection h with h;subst h;rw [UB];have:=JD ho;cases hc:c.toC<;>simp only [HS,EJ];grind
theorem Ru {st:Ac T}: ∀ {cs ds:List (DC T)},UO st cs=some ds->(Ap cs).map (HS st.toSt)=Ap ds
 | [],ds,h=>by grind [UO,Ap]
 | c::cs,ds,h=>by
   unfold UO at h;split at h
   ·rename_i d ds' h1 h2;injection h with h;subst h;simp only [Ap,map_cons,Rt h1,Ru h2]
   ·cases h
theorem Rv {st:Ac T} {v w:DV T} (h:Z3 st v=some w):Bc st.toSt v.toV=w.toV:=by unfold Z3 at h;grind [DV.toV,Bc,Rt,Ru]
theorem Eq {st:Ac T}: ∀ {vs ws:List (DV T)},JC st vs=some ws->(AQ vs).map (Bc st.toSt)=AQ ws
 | [],ws,h=>by grind [JC,AQ]
 | v::vs,ws,h=>by
   unfold JC at h;split at h
   ·rename_i d ds' h1 h2;injection h with h;subst h;simp only [AQ,map_cons,Rv h1,Eq h2]
   ·cases h
theorem UP (c:DC T):N0 c.toC=lW c:=by
 unfold lW;split
 ·rename_i id ho;rw [Di ho];simp only [DC.toC,N0]
 simp_all [JD,N0]
theorem UQ: ∀ cs:List (DC T),(Ap cs).flatMap N0=Yk cs
 | []=>by simp [Ap,Yk]
 | c::cs=>by simp only [Ap,flatMap_cons,UP,UQ cs,Yk]
theorem ja (v:DV T):qc v.toV=lX v:=by cases v<;>grind [DV.toV,qc,lX,UP,UQ]
theorem D2: ∀ vs:List (DV T),Cc (AQ vs)=Om vs
 | []=>by simp [AQ,Cc,Om]
 | v::vs=>by have:=D2 vs;simp only [Cc]at this ⊢;simp only [AQ,flatMap_cons,ja,this,Om]
theorem Cz (t:VT) (x:Dj T t):(Dk t x).pure =true:=by
 cases t with
 | k kd=>grind [Dk,V.pure,Ud]
 | s E=>grind [Dk,V.pure,Uf]
 | f g=>rfl
theorem Hi: ∀ (ts:List VT) (x:XS T ts),BA (Ep ts x)=true
 | [],_=>by simp only [Ep,BA]
 | t::ts,x=>by simp only [Ep,BA,Cz,Hi ts,Bool.and_self]
theorem Ac.arg_val {st:Ac T} {key:List GL} {x:Operand} {v:DV T} (h:st.arg key x=some v) (g:Bool):(st.toSt.arg g x).2=v.toV:=by
 have e:=st.aat x;unfold Ac.arg at h;unfold St.arg;split at h
 ·grind [DV.toV]
 ·rename_i n_;injection h with h;subst h;rw [e];cases hv:st.ev x<;>grind [DV.toV]
theorem Qa {st:Ac T} {key:List GL} (g:Bool): ∀ {xs:List Operand} {vs:List (DV T)},FY st key xs=some vs->(st.toSt.args g xs).2=AQ vs
 | [],vs,h=>by grind [FY,St.args,AQ]
 | x::xs,vs,h=>by
   unfold FY at h;split at h
   ·rename_i v vs' h1 h2;injection h with h;subst h;simp only [St.args,AQ,Ac.arg_val h1 g,Qa g h2]
   ·cases h
def Ym {P:Program} {I:World->Prop} (Γ:List (CE T P I)) (key:List GL) (st:Ac T) (f:FuncId) (xs:List Operand) (d:Option Nat):M (Ac T):=
 match FY st key xs with
 | some vs=>match JC st vs with
   | some ws=>match Nr f ws Γ with
     | some ⟨e,x⟩=> .opt (gk key (e.run x)) fun r=>match key with
       | []=>match e.rs.all (P9 T)with
         | true=> .ret (st.put d (P7 e.rs r))
         | false=>match Om vs with
           | []=> .ret (st.put d (P7 e.rs r))
           | [id]=>match st.frz id with
             | some s=> .ret (s.put d (P7 e.rs r))
             | none=> .no
           | _=> .no
       | l::ls=>match e.rs.all (P9 T),Om vs with
         | true,_=> .ret (st.put d (.g (l::ls) (P7 e.rs r)))
         | false,[]=> .ret (st.put d (.g (l::ls) (P7 e.rs r)))
         | _,_=> .no
     | none=> .no
   | none=> .no
 | none=> .no
def rq (H:Aq T) (P:Program) (I:World->Prop) (ops:Array Oper) (st:Ac T) (o:Oper) (an:Ac T):Prop:=
 (∃ H',Nx H st H' an)/\an.pre=st.pre/\ ∀ K:St->Prop,K an.toSt->ZC P I ops o st.toSt K
section
variable {H:Aq T} {P:Program} {I:World->Prop} {Γ:List (CE T P I)} {st:Ac T}
theorem oo (hw:Ay H st) {f:FuncId} {xs:List Operand} {o:Oper} (hk:BC o.op= .call f xs):
 Yl (Ym Γ [] st f xs o.dst) (fun an=>(∃ H',Nx H st H' an)/\an.pre=st.pre/\ ∀ K:St->Prop,K an.toSt->nF P I o st.toSt K):=by
 unfold Ym;split
 ·rename_i vs hvs;split
  ·rename_i ws hws;split
   ·rename_i e x hx;obtain⟨he,hx⟩:=Ee hx;refine Yl.opt fun r hr=>?_;obtain⟨a1,a2,a3⟩:=Cy (key:=[]) hw (fun _ hl=>by cases hl) rfl hvs;change (st.toSt.args true xs).1 at a2;change (st.toSt.args true xs).2=AQ vs at a3;have hp:=e.ok x r (Ob hr rfl);rw [he]at hp;have hs:(AQ vs).map (Bc st.toSt)=Ep e.ps x:=by rw [Eq hws,hx]
    have base: ∀ an:Ac T,((F8 e.rs r).flat =true\/(Cc (AQ vs)).length <=1/\ ∀ id∈Cc (AQ vs),st.toSt.aaI id=true)->an.toSt=st.toSt.after (Cc (AQ vs)) o.dst (F8 e.rs r)-> ∀ K:St->Prop,K an.toSt->nF P I o st.toSt K:=by intro an h1 h2 K hK;refine .inr ?_;grind [Hi]
    simp only;split
    ·rename_i hf;refine Yl.ret ⟨Ac.O_ hw _ (Ol _ _),AH _ _ _,base _ (.inl (by rw [IZ];exact hf)) ?_⟩;simp_all [Ac.d_,Ld,St.after,IZ]
    ·rename_i hf;have hnf: ¬(F8 e.rs r).flat =true:=by rw [IZ,hf];simp
     split
     ·rename_i ht;refine Yl.ret ⟨Ac.O_ hw _ (Ol _ _),AH _ _ _,base _ (.inr (by rw [D2,ht];simp)) ?_⟩;simp_all [Ac.d_,Ld,D2,St.after]
     ·rename_i id ht;split
      ·rename_i s hs';obtain⟨⟨H1,hN⟩,h2,h3,h4⟩:=Ac.acG hw hs';refine Yl.ret ⟨Ac.r_ hN _ (Ol _ _),by rw [AH];exact h4,base _ (by grind [D2]) ?_⟩;simp_all [Ac.d_,Ld,D2,St.after]
      ·exact Yl.no
     ·exact Yl.no
   ·exact Yl.no
  ·exact Yl.no
 ·exact Yl.no
theorem I2 {H:Aq T} {st:Ac T} {key:List GL} (hw:Ay H st) (hk:DJ H st.nx key) (d:Option Nat) {v:DV T} (hv:AO key=true->v.ok H st.nx): ∃ H',Nx H st H' (st.put d (.g key v)):=
 Ac.O_ hw d (by simp only [DV.ok];exact⟨hk,hv⟩)
theorem ou (hw:Ay H st) {f:FuncId} {xs:List Operand} {o:Oper} {key:List GL} (hk:BC o.op= .call f xs) (ag0:DJ H st.nx key) (n_:key ≠ []):
 Yl (Ym Γ key st f xs o.dst) (fun an=>(∃ H',Nx H st H' an)/\an.pre=st.pre/\ ∀ K:St->Prop,K an.toSt->yT P I o st.toSt (AO key) K):=by
 unfold Ym;split
 ·rename_i vs hvs;split
  ·rename_i ws hws;split
   ·rename_i e x hx;obtain⟨he,hx⟩:=Ee hx;refine Yl.opt fun r hr=>?_;have hs:(AQ vs).map (Bc st.toSt)=Ep e.ps x:=by rw [Eq hws,hx]
    have base:((F8 e.rs r).flat =true\/Om vs=[])-> ∀ K:St->Prop,K (st.put o.dst (.g key (P7 e.rs r))).toSt ->yT P I o st.toSt (AO key) K:=by
     intro h1 K hK;refine .inr ?_;rw [hk];simp only;rw [Qa _ hvs,hs,D2];rw [Ac.d_]at hK;refine⟨fun hc=>?_,F8 e.rs r,h1,fun hc=>?_,by grind [DV.toV,Ld]⟩
     ·obtain⟨a1,a2,a3⟩:=Cy hw ag0 hc hvs;grind [Hi]
     ·have hp:=e.ok x r (Ob hr hc);grind
    split
    ·grind
    ·rename_i l ls;split
     all_goals simp_all [Yl.ret,I2,Ol,AH,IZ,Yl.no]
   ·exact Yl.no
  ·exact Yl.no
 ·exact Yl.no
end
end Go.PL
namespace Go.PL
open Go Go.RowKit
variable {T:AX}
def zE (n:Nat) (want b:Bool):GL:=⟨n,want,b==want⟩
def UR (st:Ac T) (ops:Array Oper) (j:Nat) (want:Bool):Option (List GL):=
 match ops[j]? with
 | some p=>match p.dst with
   | some t=>match Uk st (.tmp t),st.get t with
     | n+1, .c (.k .bool b)=>some [zE n want b]
     | n+1, .g k (.c (.k .bool b))=>some (zE n want b::k)
     | _,_=>none
   | none=>none
 | none=>none
theorem Lf {H:Aq T} {st:Ac T} {ops:Array Oper} {j:Nat} {want:Bool} {key:List GL} (hw:Ay H st) (h:UR st ops j want=some key):F5 st.toSt ops j want=some (AO key)/\DJ H st.nx key/\key ≠ []:=by
 unfold UR at h;unfold F5;split at h
 ·rename_i p hp;split at h
  ·rename_i t ht;simp only [hp,ht];have hg:=st.aaa t;have hok:=Ac.acW hw t;have tg: ∀ n,Uk st (.tmp t)=n+1->n<st.nx/\H.v n=st.get t:=by
    intro n hn;unfold Uk at hn;simp only at hn;split at hn
    ·rename_i hb;have:=T8 hw.tm hn;grind [Ac.get]
    ·cases hn
   split at h
   ·rename_i n b hn hv;injection h with h;subst h;obtain⟨q1,q2⟩:=tg n hn;rw [hv]at hg;refine⟨by rw [hg];rfl,fun l hl=>?_,by simp⟩;simp only [mem_singleton]at hl;subst hl;exact⟨q1,by show (_==_)=(ZT (H.v n)==_);rw [q2,hv];rfl⟩
   ·rename_i n k b hn hv;injection h with h;subst h;obtain⟨q1,q2⟩:=tg n hn;rw [hv]at hg hok;simp only [DV.ok]at hok;refine⟨?_,fun l hl=>?_,by simp⟩
    ·rw [hg];simp only [DV.toV,DC.toC,AW];cases k<;>grind [AO,zE]
    ·rcases mem_cons.1 hl with rfl | hl
     ·exact⟨q1,by show (_==_)=(ZT (H.v n)==_);rw [q2,hv];rfl⟩
     grind
   ·cases h
  ·cases h
 ·cases h
def Acx:DV T->Option Ad
 | .c x=>HV x
 | _=>none
def dop {P:Program} {I:World->Prop} (Γ:List (CE T P I)) (ops:Array Oper) (o:Oper) (st:Ac T):M (Ac T):=
 match o.guard with
 | none=>match BC o.op with
   | .rd => .y_ (IW P [] st o.op) fun v=> .ret (st.put o.dst v)
   | .ef =>oc P st o
   | .call f xs=>Ym Γ [] st f xs o.dst
   | .cut x=>match st.arg [] x with
     | some u=>match Acx u with
       | some id=>match st.frz id with
         | some s=> .y_ (IW P [] s o.op) fun v=> .ret (s.put o.dst v)
         | none=> .no
       | none=> .y_ (IW P [] st o.op) fun v=> .ret (st.put o.dst v)
     | none=> .no
   | .no => .no
 | some (j,want)=>match UR st ops j want with
   | some key=>match BC o.op with
     | .rd => .y_ (IW P key st o.op) fun v=> .ret (st.put o.dst (.g key v))
     | .call f xs=>Ym Γ key st f xs o.dst
     | _=> .no
   | none=> .no
section
variable {H:Aq T} {P:Program} {I:World->Prop} {Γ:List (CE T P I)} {st:Ac T} {ops:Array Oper}
theorem I3 (H:Aq T) (n:Nat):DJ H n []:=fun _ hl=>by cases hl
theorem I4 (hw:Ay H st) {o:Oper} {Φ:Ac T->Prop} (h: ∀ v:DV T,v.ok H st.nx->(CT P st.toSt true o.op).1->(CT P st.toSt true o.op).2=v.toV->Φ (st.put o.dst v)):Yl (M.y_ (IW P [] st o.op) fun v=> .ret (st.put o.dst v)) Φ:=
 Yl.y_ (IX hw (I3 _ _) o.op) fun v hv=>by obtain⟨a,b,c⟩:=hv rfl;exact Yl.ret (h v a b c)
theorem Z4 (hw:Ay H st) (o:Oper):Yl (dop Γ ops o st) (rq H P I ops st o):=by
 unfold dop;split
 ·rename_i hg;have W: ∀ {an:Ac T},((∃ H',Nx H st H' an)/\an.pre=st.pre/\ ∀ K:St->Prop,K an.toSt->nF P I o st.toSt K)->rq H P I ops st o an:=fun⟨a,b,c⟩=>⟨a,b,fun K hK=>by unfold ZC;rw [hg];exact c K hK⟩;split
  ·rename_i hk;refine I4 hw fun v hv h1 h2=>W ⟨Ac.O_ hw _ hv,AH _ _ _,fun K hK=> .inr ?_⟩;grind [Ac.d_]
  ·rename_i hk;refine(SG hw o).mono fun an h=>?_;obtain⟨h1,h2,h3,h4⟩:=h;refine W ⟨h1,h4,fun K hK=> .inl fun F a w G Q hI hR=>?_⟩;obtain⟨nx,w',G',q1,q2⟩:=(NZ hR h2).out;unfold Oper.wp Oper.upon;rw [q1];rcases q2 with ⟨v,rfl,q3⟩ | ⟨rfl,q3⟩
   ·exact⟨_,G',hK,q3.less h3⟩
   ·exact⟨_,G',hK,q3.less h3⟩
  ·rename_i f xs hk;exact(oo hw hk).mono fun an h=>W h
  ·rename_i x hk;split
   ·rename_i u hx;obtain⟨a1,a2,a3⟩:=E3 hw hx;split
    ·rename_i id ho;have hu:u= .c (.c (.l_ id)):=by unfold Acx at ho;grind [Di]
     split
     ·rename_i s hs;obtain⟨⟨H1,hN⟩,h2,h3,h4⟩:=Ac.acG hw hs;have ao2:st.toSt.cutAt true x=s.toSt:=by grind [St.cutAt,DV.toV,DC.toC]
      refine I4 hN.ok fun v hv q1 q2=>W ⟨Ac.r_ hN _ hv,by rw [AH];exact h4,fun K hK=> .inr ?_⟩;grind [Ac.d_]
     ·exact Yl.no
    ·rename_i ho;have ao2:st.toSt.cutAt true x=st.toSt:=by
      unfold St.cutAt;rw [a3];split
      ·rename_i id he;exfalso;cases u with
       | c y=>
         simp only [DV.toV,V.c.injEq]at he;exact JD ho id he
       | _=>simp [DV.toV]at he
      ·rfl
     refine I4 hw fun v hv q1 q2=>W ⟨Ac.O_ hw _ hv,AH _ _ _,fun K hK=> .inr ?_⟩;grind [Ac.d_]
   ·exact Yl.no
  ·exact Yl.no
 ·rename_i j want hg;split
  ·rename_i key ag0;obtain⟨g1,g2,g3⟩:=Lf hw ag0;have W: ∀ {an:Ac T},((∃ H',Nx H st H' an)/\an.pre=st.pre/\ ∀ K:St->Prop,K an.toSt->yT P I o st.toSt (AO key) K)->rq H P I ops st o an:=fun⟨a,b,c⟩=>⟨a,b,fun K hK=>by unfold ZC;rw [hg];simp only [g1];exact c K hK⟩;split
   ·rename_i hk;refine Yl.y_ (IX hw g2 o.op) fun v hv=>Yl.ret (W ⟨I2 hw g2 _ (fun hc=>(hv hc).1),AH _ _ _,fun K hK=> .inr ?_⟩);rw [hk];refine⟨v.toV,fun hc=>(hv hc).2,?_⟩;grind [Ac.d_,DV.toV]
   ·rename_i f xs hk;exact(ou hw hk g2 g3).mono fun an h=>W h
   ·exact Yl.no
  ·exact Yl.no
def Acy {P:Program} {I:World->Prop} (Γ:List (CE T P I)) (ops:Array Oper):List Oper->Ac T->M (Ac T)
 | [],st=> .ret st
 | o::rest,st=> .y_ (dop Γ ops o st) fun an=>Acy Γ ops rest an
theorem vV: ∀ (l:List Oper) (st:Ac T) (H:Aq T),Ay H st->Yl (Acy Γ ops l st) (fun an=>(∃ H',Nx H st H' an)/\an.pre=st.pre/\ ∀ K:St->Prop,K an.toSt->MH P I ops l st.toSt K)
 | [],st,H,hw=>Yl.ret ⟨⟨H,Nx.refl hw⟩,rfl,fun _ hK=>hK⟩
 | o::rest,st,H,hw=>Yl.y_ (Z4 hw o) fun s hs=>by obtain⟨⟨H1,h1⟩,h2,h3⟩:=hs;refine(vV rest s H1 h1.ok).mono fun s' hs'=>?_;obtain⟨⟨H2,k1⟩,k2,k3⟩:=hs';exact⟨⟨H2,h1.trans k1⟩,k2.trans h2,fun K hK=>h3 _ (k3 K hK)⟩
def Z5 {P:Program} {I:World->Prop} (Γ:List (CE T P I)) (key:List GL) (st:Ac T) (f:FuncId) (xs:List Operand):M (DV T):=
 match FY st key xs with
 | some vs=>match JC st vs with
   | some ws=>match Nr f ws Γ with
     | some ⟨e,x⟩=>A_ (e.rs.all (P9 T)) (.opt (gk key (e.run x)) fun r=> .ret (P7 e.rs r))
     | none=> .no
   | none=> .no
 | none=> .no
def zF {P:Program} {I:World->Prop} (Γ:List (CE T P I)) (ops:Array Oper) (o:Oper) (st:Ac T):M (Ac T):=
 match o.guard with
 | none=>match BC o.op with
   | .rd => .y_ (IW P [] st o.op) fun v=> .ret (st.put o.dst v)
   | .call f xs=> .y_ (Z5 Γ [] st f xs) fun v=> .ret (st.put o.dst v)
   | .cut _=> .y_ (IW P [] st o.op) fun v=> .ret (st.put o.dst v)
   | _=> .no
 | some (j,want)=>match UR st ops j want with
   | some key=>match BC o.op with
     | .rd => .y_ (IW P key st o.op) fun v=> .ret (st.put o.dst (.g key v))
     | .call f xs=> .y_ (Z5 Γ key st f xs) fun v=> .ret (st.put o.dst (.g key v))
     | .cut _=> .y_ (IW P key st o.op) fun v=> .ret (st.put o.dst (.g key v))
     | _=> .no
   | none=> .no
theorem Yn {key:List GL} (hw:Ay H st) (hk:DJ H st.nx key) {f:FuncId} {xs:List Operand}:
 Yl (Z5 Γ key st f xs) (fun v=>(∀ n,v.ok H n)/\v.toV.flat=true/\(AO key=true->(st.toSt.args (AO key) xs).1/\BA ((st.toSt.args (AO key) xs).2.map (Bc st.toSt))=true)/\(AO key=true->Cm P I f ((st.toSt.args (AO key) xs).2.map (Bc st.toSt)) (· =v.toV))):=by
 unfold Z5;split
 ·rename_i vs hvs;split
  ·rename_i ws hws;split
   ·rename_i e x hx;obtain⟨he,hx⟩:=Ee hx;refine Yl.A_ fun hf=>Yl.opt fun r hr=>Yl.ret ?_;have hs:(AQ vs).map (Bc st.toSt)=Ep e.ps x:=by rw [Eq hws,hx]
    rw [Qa _ hvs,hs,Ld];refine⟨fun n=>Ol _ _,by rw [IZ];exact hf,fun hc=>⟨(Cy hw hk hc hvs).2.1,Hi _ _⟩,fun hc=>?_⟩;have hp:=e.ok x r (Ob hr hc);grind
   ·exact Yl.no
  ·exact Yl.no
 ·exact Yl.no
theorem vW (hw:Ay H st) (o:Oper):Yl (zF Γ ops o st) (fun an=>(∃ H',Nx H st H' an)/\an.pre=st.pre/\ ∀ K:St->Prop,K an.toSt->yW P I ops o st.toSt K):=by
 unfold zF;split
 ·rename_i hg;have W: ∀ {an:Ac T},((∃ H',Nx H st H' an)/\an.pre=st.pre/\ ∀ K:St->Prop,K an.toSt->yU P I o st.toSt K)->(∃ H',Nx H st H' an)/\an.pre=st.pre/\ ∀ K:St->Prop,K an.toSt->yW P I ops o st.toSt K:=(by grind [yW]);split
  ·rename_i hk;refine I4 hw fun v hv h1 h2=>W ⟨Ac.O_ hw _ hv,AH _ _ _,fun K hK=>?_⟩;grind [yU,Ac.d_]
  ·rename_i f xs hk;refine Yl.y_ (Yn hw (I3 _ _)) fun v hv=>Yl.ret (W ⟨Ac.O_ hw _ (hv.1 _),AH _ _ _,fun K hK=>?_⟩);obtain⟨q1,q2,q3,q4⟩:=hv;unfold yU;rw [hk];exact⟨(q3 rfl).1,(q3 rfl).2,v.toV,q2,q4 rfl,by grind [Ac.d_]⟩
  ·rename_i x hk;refine I4 hw fun v hv h1 h2=>W ⟨Ac.O_ hw _ hv,AH _ _ _,fun K hK=>?_⟩;grind [yU,Ac.d_]
  ·exact Yl.no
 ·rename_i j want hg;split
  ·rename_i key ag0;obtain⟨g1,g2,g3⟩:=Lf hw ag0;have W: ∀ {an:Ac T},((∃ H',Nx H st H' an)/\an.pre=st.pre/\ ∀ K:St->Prop,K an.toSt->yV P I o st.toSt (AO key) K)->(∃ H',Nx H st H' an)/\an.pre=st.pre/\ ∀ K:St->Prop,K an.toSt->yW P I ops o st.toSt K:=(by simp_all [yW]);split
   ·rename_i hk;refine Yl.y_ (IX hw g2 o.op) fun v hv=>Yl.ret (W ⟨I2 hw g2 _ (fun hc=>(hv hc).1),AH _ _ _,fun K hK=>?_⟩);unfold yV;rw [hk];refine⟨v.toV,fun hc=>(hv hc).2,?_⟩;grind [Ac.d_,DV.toV]
   ·rename_i f xs hk;refine Yl.y_ (Yn hw g2) fun v hv=>Yl.ret (W ⟨I2 hw g2 _ (fun _=>hv.1 _),AH _ _ _,fun K hK=>?_⟩);grind [yV,Ac.d_,DV.toV]
   ·rename_i x hk;refine Yl.y_ (IX hw g2 o.op) fun v hv=>Yl.ret (W ⟨I2 hw g2 _ (fun hc=>(hv hc).1),AH _ _ _,fun K hK=>?_⟩);unfold yV;rw [hk];refine⟨v.toV,fun hc=>(hv hc).2,?_⟩;grind [Ac.d_,DV.toV]
   ·exact Yl.no
  ·exact Yl.no
def rr {P:Program} {I:World->Prop} (Γ:List (CE T P I)) (ops:Array Oper):List Oper->Ac T->M (Ac T)
 | [],st=> .ret st
 | o::rest,st=> .y_ (zF Γ ops o st) fun an=>rr Γ ops rest an
theorem ej: ∀ (l:List Oper) (st:Ac T) (H:Aq T),Ay H st->Yl (rr Γ ops l st) (fun an=>(∃ H',Nx H st H' an)/\an.pre=st.pre/\ ∀ K:St->Prop,K an.toSt->XH P I ops l st.toSt K)
 | [],st,H,hw=>Yl.ret ⟨⟨H,Nx.refl hw⟩,rfl,fun _ hK=>hK⟩
 | o::rest,st,H,hw=>Yl.y_ (vW hw o) fun s hs=>by obtain⟨⟨H1,h1⟩,h2,h3⟩:=hs;refine(ej rest s H1 h1.ok).mono fun s' hs'=>?_;obtain⟨⟨H2,k1⟩,k2,k3⟩:=hs';exact⟨⟨H2,h1.trans k1⟩,k2.trans h2,fun K hK=>h3 _ (k3 K hK)⟩
end
end Go.PL
namespace Go.PL
open Go Go.RowKit
variable {T:AX}
def US (v v':V):Prop:= ∀ (w:World) (G:Ax) (u:Value),Aa w G v u->Aa w G v' u
def WU (c c':C):Prop:= ∀ (w:World) (G:Ax) (u:Value),Ab w G c u->Ab w G c' u
def Dl:List C->List C->Prop
 | [],[]=>True
 | c::cs,d::ds=>WU c d/\Dl cs ds
 | _,_=>False
theorem WU.refl (c:C):WU c c:=fun _ _ _ h=>h
theorem US.refl (c:V):US c c:=fun _ _ _ h=>h
theorem WU.acv {c d:C} (h:EJ c=d):WU c d:=fun _ _ _ hr=>h▸Gv hr
theorem Dl.length: ∀ {cs ds:List C},Dl cs ds->cs.length=ds.length
 | [],[],_=>rfl
 | [],_::_,h=>h.elim
 | _::_,[],h=>h.elim
 | c::cs,d::ds,h=>by simp [Dl.length h.2]
theorem Dl.append: ∀ {a b x y:List C},Dl a b->Dl x y->Dl (a++x) (b++y)
 | [],[],_,_,_,h=>h
 | [],_::_,_,_,h,_=>h.elim
 | _::_,[],_,_,h,_=>h.elim
 | c::cs,d::ds,_,_,h,k=>⟨h.1,Dl.append h.2 k⟩
theorem Dl.acv: ∀ {cs ds:List C},cs.map EJ=ds->Dl cs ds
 | [],ds,h=>by simp at h;subst h;trivial
 | c::cs,ds,h=>by subst h;exact⟨WU.acv rfl,Dl.acv rfl⟩
theorem Dl.refl: ∀ cs:List C,Dl cs cs
 | []=>trivial
 | c::cs=>⟨WU.refl c,Dl.refl cs⟩
theorem Ai.imp {w:World} {G:Ax}: ∀ {cs ds:List C} {b off:Nat},Dl cs ds->Ai w G cs b off->Ai w G ds b off
 | [],[],_,_,_,h=>h
 | [],_::_,_,_,h,_=>h.elim
 | _::_,[],_,_,h,_=>h.elim
 | c::cs,d::ds,b,off,h,hr=>by simp only [Ai]at hr ⊢;obtain⟨⟨v,h1,h2⟩,h3⟩:=hr;exact⟨⟨v,h1,h.1 _ _ _ h2⟩,Ai.imp h.2 h3⟩
theorem Ae.imp {w:World} {G:Ax}: ∀ {cs ds:List C} {vs:List Value},Dl cs ds->Ae w G cs vs->Ae w G ds vs
 | [],[],_,_,h=>h
 | [],_::_,_,h,_=>h.elim
 | _::_,[],_,h,_=>h.elim
 | c::cs,d::ds,[],_,hr=>by simp only [Ae]at hr
 | c::cs,d::ds,v::vs,h,hr=>by simp only [Ae]at hr ⊢;exact⟨h.1 _ _ _ hr.1,Ae.imp h.2 hr.2⟩
structure Wkn (st an:St):Prop where
 len:an.tm.length=st.tm.length
 tm: ∀ i,US (st.tm.getD i .undef) (an.tm.getD i .undef)
 so: ∀ e'∈an.so,e'∈st.so\/ ∃ cs Tk,(⟨e'.id,none,cs,false⟩:Ar)∈st.so/\e'=⟨e'.id,none,Tk,false⟩/\Dl cs Tk/\Zo cs=false
 nd:(an.so.map (·.id)).Nodup
 gh:an.gh=st.gh
 pre:an.pre=st.pre
theorem R.wkn {F:Fr} {st an:St} {a:Act} {w:World} {G:Ax} (h:R F st a w G) (k:Wkn st an):R F an a w G:={
 dfr:=h.dfr
 size:=by rw [k.len];exact h.size
 slots:=fun i=>k.tm i _ _ _ (h.slots i)
 t_:=by rw [k.gh];exact h.t_
 store:=fun e he=>by
  rcases k.so e he with q | ⟨cs,Tk,q1,q2,q3,q4⟩
  ·exact h.store e q
  ·have:=h.store _ q1;rw [q2];simp only [AN]at this ⊢;obtain⟨b,h1,h2⟩:=this;obtain⟨Ty,cur,h3,h4,h5⟩:=h2.cells q4;exact⟨b,h1, .inr ⟨Ty,cur,h3,by rw [h4,q3.length],h5.imp q3⟩⟩
 deep:=fun e he=>by
  rcases k.so e he with q | ⟨cs,Tk,q1,q2,q3,q4⟩
  ·exact h.deep e q
  ·have:=h.deep _ q1;rw [q2];exact⟨this.1,fun hd=>by have:=(this.2 hd).1;cases this⟩
 k_:=fun e he hp=>by
  rcases k.so e he with q | ⟨cs,Tk,q1,q2,q3,q4⟩
  ·exact h.k_ e q hp
  grind
 nodup:=k.nd
 inj:=h.inj,lt:=h.lt,new:=h.new,wr:=h.wr,Tu:=h.Tu,inv:=h.inv,Kq:=h.Kq,os:=h.os,tape:=h.tape,output:=h.output,hsize:=h.hsize,ext:=h.ext}
theorem Wk.wkn {st an:St} (k:Wkn st an):Wk st an:=fun _ _ _ G hR=>⟨G,hR.wkn k⟩
inductive Sg where
 | v (t:VT)
 | c (x:C)
inductive VSp where
 | c (s:Sg)
 | agg (l:List Sg)
inductive ESp where
 | box (l:List Sg)
 | row (E:Nat)
 | deep (E:Nat)
structure FG where
 ks:List Nat
 vs:List (Nat×VSp)
 ke:List Ad
 es:List (Ad×ESp)
def Sg.ts:List Sg->List VT
 | []=>[]
 | .v t::r=>t::Sg.ts r
 | .c _::r=>Sg.ts r
def VSp.ts:VSp->List VT
 | .c s=>Sg.ts [s]
 | .agg l=>Sg.ts l
def ESp.ts:ESp->List VT
 | .box l=>Sg.ts l
 | .row E=>[.k (.w_ E)]
 | .deep E=>[.k (.int .i64), .k (.w_ E)]
def Acz:List (Nat×VSp)->List VT
 | []=>[]
 | (_,p)::r=>p.ts++Acz r
def AcA:List (Ad×ESp)->List VT
 | []=>[]
 | (_,p)::r=>p.ts++AcA r
def FG.ts (sh:FG):List VT:=Acz sh.vs++AcA sh.es
def okC (x c:C):Bool:=match x,c with
 | .any,_=>true
 | .l_ i, .l_ j=>AP i j
 | .ptr i o, .ptr j o'=>AP i j&&Nat.beq o o'
 | .aaJ, .aaJ =>true
 | .K_, .K_ =>true
 | .held, .held =>true
 | .P_, .P_ =>true
 | .fn f, .fn g=>Nat.beq f g
 | _,_=>false
theorem vX {x c:C} (h:okC x c=true):WU c x:=by
 unfold okC at h;split at h
 ·intro w G u hr;simp only [Ab];exact hr.one
 all_goals simp_all [AE,WU.refl]
def HW:List Sg->List (DC T)->Option (List (DV T)×List (DC T))
 | [],cs=>some ([],cs)
 | .c x::r,c::cs=>match okC x c.toC with
   | true=>HW r cs
   | false=>none
 | .v (.k _)::r,c::cs=>match HW r cs with
   | some (vs,ds)=>some (.c c::vs,ds)
   | none=>none
 | .v (.s E)::r,cs=>match Nat.ble (T.sz E) cs.length,HW r (cs.drop (T.sz E))with
   | true,some (vs,ds)=>some (.agg (cs.take (T.sz E))::vs,ds)
   | _,_=>none
 | _,_=>none
def Eg:List Sg->List (DV T)->Option (List (DC T)×List (DV T))
 | [],vs=>some ([],vs)
 | .c x::r,vs=>match Eg r vs with
   | some (cs,us)=>some (.c x::cs,us)
   | none=>none
 | .v _::r, .c y::vs=>match Eg r vs with
   | some (cs,us)=>some (y::cs,us)
   | none=>none
 | .v _::r, .agg ds::vs=>match Eg r vs with
   | some (cs,us)=>some (ds++cs,us)
   | none=>none
 | _::_,_=>none
def vY (v v':DV T):Prop:=(∃ c c',v= .c c/\v'= .c c'/\EJ c.toC=c'.toC/\c'.ok)\/(∃ cs Tk,v= .agg cs/\v'= .agg Tk/\(Ap cs).map EJ=Ap Tk/\Bx Tk)
inductive abX {α β:Type} (P:α->β->Prop):List α->List β->Prop
 | nil:abX P [] []
 | cons {a b l m}:P a b->abX P l m->abX P (a::l) (b::m)
theorem abX.abx {α β:Type} {P:α->β->Prop}: ∀ {a b:List α} {m:List β},abX P (a++b) m-> ∃ x y,m=x++y/\abX P a x/\abX P b y
 | [],b,m,h=>⟨[],m,rfl, .nil,h⟩
 | c::a,b,m,h=>by
   cases h with
   | cons h1 h2=>
     obtain⟨x,y,e,p,q⟩:=abX.abx h2;subst e;exact⟨_::x,y,rfl, .cons h1 p,q⟩
theorem E5: ∀ {l:List Sg} {cs ds:List (DC T)} {vs vs':List (DV T)} {Tk:List (DC T)} {us us':List (DV T)},HW l cs=some (vs,ds)->abX vY vs vs'->Eg l (vs'++us)=some (Tk,us')->
 us'=us/\Dl (Ap cs) (Ap Tk++Ap ds)/\Bx Tk
 | [],cs,ds,vs,vs',Tk,us,us',h,hw,hi=>by
   simp only [HW,injEq,Prod.mk.injEq]at h;obtain⟨rfl,rfl⟩:=h;cases hw
   simp only [Eg,nil_append,injEq,Prod.mk.injEq]at hi;obtain⟨rfl,rfl⟩:=hi;exact⟨rfl,by grind [Ap,Dl.refl],by simp [Bx]⟩
 | .c x::r,c::cs,ds,vs,vs',Tk,us,us',h,hw,hi=>by
   simp only [HW]at h;split at h
   ·rename_i ho;simp only [Eg]at hi;split at hi
    ·rename_i cs1 us1 h1;simp only [injEq,Prod.mk.injEq]at hi;obtain⟨rfl,rfl⟩:=hi;obtain⟨a,b,d⟩:=E5 h hw h1;refine⟨a,?_,by simp_all [Bx,DC.ok]⟩;simp only [Ap,cons_append,DC.toC];exact⟨vX ho,b⟩
    ·cases hi
   ·cases h
 | .v (.k kd)::r,c::cs,ds,vs,vs',Tk,us,us',h,hw,hi=>by
   simp only [HW]at h;split at h
   ·rename_i vs1 ds1 h1;simp only [injEq,Prod.mk.injEq]at h;obtain⟨rfl,rfl⟩:=h;cases hw with
    | cons p q=>
      rename_i b m;rcases p with ⟨c0,c',e1,e2,e3,e4⟩ | ⟨_,_,e1,_⟩
      ·injection e1 with e1;subst e1 e2;simp only [cons_append,Eg]at hi;split at hi
       ·rename_i cs1 us1 h2;simp only [injEq,Prod.mk.injEq]at hi;obtain⟨rfl,rfl⟩:=hi;obtain⟨a,b,d⟩:=E5 h1 q h2;refine⟨a,?_,by grind [Bx]⟩;simp only [Ap,cons_append];exact⟨WU.acv e3,b⟩
       ·cases hi
      ·cases e1
   ·cases h
 | .v (.s E)::r,cs,ds,vs,vs',Tk,us,us',h,hw,hi=>by
   simp only [HW]at h;split at h
   ·rename_i vs1 ds1 hb h1;simp only [injEq,Prod.mk.injEq]at h;obtain⟨rfl,rfl⟩:=h;cases hw with
    | cons p q=>
      rename_i b m;rcases p with ⟨_,_,e1,_⟩ | ⟨c0,c',e1,e2,e3,e4⟩
      ·cases e1
      ·injection e1 with e1;subst e1 e2;simp only [cons_append,Eg]at hi;split at hi
       ·rename_i cs1 us1 h2;simp only [injEq,Prod.mk.injEq]at hi;obtain⟨rfl,rfl⟩:=hi;obtain⟨a,b,d⟩:=E5 h1 q h2;refine⟨a,?_,Cq e4 d⟩;have e:Ap cs=Ap (cs.take (T.sz E))++Ap (cs.drop (T.sz E)):=by rw [<-BY,List.take_append_drop]
        rw [e,BY,append_assoc];exact(Dl.acv e3).append b
       ·cases hi
   ·cases h
 | .c _::_,[],_,_,_,_,_,_,h,_,_=>by simp [HW]at h
 | .v (.k _)::_,[],_,_,_,_,_,_,h,_,_=>by simp [HW]at h
 | .v (.f _)::_,_,_,_,_,_,_,_,h,_,_=>by simp [HW]at h
def zG:VSp->DV T->Option (List (DV T))
 | .c s, .c x=>match HW [s] [x]with
   | some (vs,[])=>some vs
   | _=>none
 | .agg l, .agg cs=>match HW l cs with
   | some (vs,[])=>some vs
   | _=>none
 | _,_=>none
def ov:VSp->List (DV T)->Option (DV T×List (DV T))
 | .c s,vs=>match Eg [s] vs with
   | some ([c],us)=>some (.c c,us)
   | _=>none
 | .agg l,vs=>match Eg l vs with
   | some (cs,us)=>some (.agg cs,us)
   | none=>none
theorem oz {p:VSp} {v:DV T} {vs vs' us us':List (DV T)} {v':DV T} (h:zG p v=some vs) (hw:abX vY vs vs') (hi:ov p (vs'++us)=some (v',us')):us'=us/\US v.toV v'.toV:=by
 unfold zG at h;split at h
 ·rename_i s x;split at h
  ·rename_i vs1 h1;injection h with h;subst h;simp only [ov]at hi;split at hi
   ·rename_i c us1 h2;simp only [injEq,Prod.mk.injEq]at hi;obtain⟨rfl,rfl⟩:=hi;obtain⟨a,b,d⟩:=E5 h1 hw h2;refine⟨a,?_⟩;simp only [Ap,append_nil,Dl,and_true]at b;intro w G u hr;simp only [DV.toV,Aa]at hr ⊢;exact b _ _ _ hr
   ·cases hi
  ·cases h
 ·rename_i l cs;split at h
  ·rename_i vs1 h1;injection h with h;subst h;simp only [ov]at hi;split at hi
   ·rename_i c us1 h2;simp only [injEq,Prod.mk.injEq]at hi;obtain⟨rfl,rfl⟩:=hi;obtain⟨a,b,d⟩:=E5 h1 hw h2;refine⟨a,?_⟩;simp only [Ap,append_nil]at b;intro w G u hr;simp only [DV.toV,Aa]at hr ⊢;obtain⟨arr,e,hr⟩:=hr;exact⟨arr,e,hr.imp b⟩
   ·cases hi
  ·cases h
 ·cases h
def oA (v:DV T):Prop:= ∀ (H:Aq T) (n:Nat),v.ok H n
theorem I5: ∀ {l:List Sg} {vs us:List (DV T)} {cs:List (DC T)},(∀ v∈vs,oA v)->Eg l vs=some (cs,us)->Bx cs/\ ∀ v∈us,oA v
 | [],vs,us,cs,hv,h=>by simp only [Eg,injEq,Prod.mk.injEq]at h;obtain⟨rfl,rfl⟩:=h;grind [Bx]
 | .c x::r,vs,us,cs,hv,h=>by
   simp only [Eg]at h;split at h
   ·rename_i cs1 us1 h1;simp only [injEq,Prod.mk.injEq]at h;obtain⟨rfl,rfl⟩:=h;obtain⟨a,b⟩:=I5 hv h1;simp_all [Bx,DC.ok]
   ·cases h
 | .v t::r,vs,us,cs,hv,h=>by
   match vs,hv,h with
   | .c y::vs,hv,h=>
     simp only [Eg]at h;split at h
     ·rename_i cs1 us1 h1;simp only [injEq,Prod.mk.injEq]at h;obtain⟨rfl,rfl⟩:=h;obtain⟨a,b⟩:=I5 (fun v hm=>hv v (by simp [hm])) h1;have:=hv (.c y) (by simp) ⟨fun _=> .u,fun _=>⟨[],0, .box []⟩⟩ 0;simp only [DV.ok]at this;exact⟨by simp only [Bx];exact⟨this,a⟩,b⟩
     ·cases h
   | .agg ds::vs,hv,h=>
     simp only [Eg]at h;split at h
     ·rename_i cs1 us1 h1;simp only [injEq,Prod.mk.injEq]at h;obtain⟨rfl,rfl⟩:=h;obtain⟨a,b⟩:=I5 (fun v hm=>hv v (by simp [hm])) h1;have:=hv (.agg ds) (by simp) ⟨fun _=> .u,fun _=>⟨[],0, .box []⟩⟩ 0;simp only [DV.ok]at this;exact⟨Cq this a,b⟩
     ·cases h
   | [],_,h=>simp [Eg]at h
   | .tup _::_,_,h=>simp [Eg]at h
   | .g _ _::_,_,h=>simp [Eg]at h
   | .u ::_,_,h=>simp [Eg]at h
theorem vZ {p:VSp} {vs us:List (DV T)} {v:DV T} (hv: ∀ v∈vs,oA v) (h:ov p vs=some (v,us)):oA v/\ ∀ v∈us,oA v:=by
 unfold ov at h;split at h
 ·split at h
  ·rename_i c us1 h1;simp only [injEq,Prod.mk.injEq]at h;obtain⟨rfl,rfl⟩:=h;obtain⟨a,b⟩:=I5 hv h1;simp only [Bx,and_true]at a;exact⟨fun H n=>by simp only [DV.ok];exact a,b⟩
  ·cases h
 ·split at h
  ·rename_i c us1 h1;simp only [injEq,Prod.mk.injEq]at h;obtain⟨rfl,rfl⟩:=h;obtain⟨a,b⟩:=I5 hv h1;exact⟨fun H n=>by simp only [DV.ok];exact a,b⟩
  ·cases h
end Go.PL
namespace Go.PL
open Go Go.RowKit
variable {T:AX}
def Z6 (kd:Kd) (v:DV T):Option (L5 T.den kd):=match asC v with
 | some x=>Fz true kd x
 | none=>none
def Z7 (E:Nat) (v:DV T):Option (T.den E):=match asA v with
 | some cs=>pY true E cs
 | none=>none
def UT:(t:VT)->DV T->Option (Dj T t)
 | .k kd,v=>Z6 kd v
 | .s E,v=>Z7 E v
 | .f _,_=>none
theorem Z8 {kd:Kd} {v:DV T} {x:L5 T.den kd} (h:Z6 kd v=some x):vY v (.c (.k kd x)):=by
 unfold Z6 at h;split at h
 ·rename_i y hy;exact .inl ⟨y,_,UH hy,rfl,(BP h).1,by simp only [DC.ok]⟩
 ·cases h
theorem Z9 {E:Nat} {v:DV T} {x:T.den E} (h:Z7 E v=some x):vY v (.agg (ZU E x)):=by
 unfold Z7 at h;split at h
 ·rename_i y hy;exact .inr ⟨y,_,UI hy,rfl,by grind [Eo,FA],JA E x⟩
 ·cases h
theorem Rw {t:VT} {v:DV T} {x:Dj T t} (h:UT t v=some x):vY v (MK t x):=by
 cases t with
 | k kd=>exact Z8 h
 | s E=>exact Z9 h
 | f g=>cases h
def lY {α β:Type}:Option α->Option β->Option (α×β)
 | some x,some y=>some (x,y)
 | _,_=>none
theorem jb {α β:Type} {a:Option α} {b:Option β} {x:α×β} (h:lY a b=some x):a=some x.1/\b=some x.2:=by
 cases a<;>cases b<;>simp [lY]at h
 grind
def ac:(ts:List VT)->List (DV T)->Option (RT T ts)
 | [],[]=>some ()
 | [t],[v]=>UT t v
 | t::u::ts,v::vs=>lY (UT t v) (ac (u::ts) vs)
 | _,_=>none
theorem Rx: ∀ {ts:List VT} {vs:List (DV T)} {x:RT T ts},ac ts vs=some x->abX vY vs (BQ ts x)
 | [],[],x,_=> .nil
 | [],_::_,x,h=>by cases (show (none:Option (RT T []))=some x from h)
 | [t],[v],x,h=> .cons (Rw (show UT t v=some x from h)) .nil
 | [t],[],x,h=>by cases (show (none:Option (RT T [t]))=some x from h)
 | [t],v::w::vs,x,h=>by cases (show (none:Option (RT T [t]))=some x from h)
 | t::u::ts,[],x,h=>by cases (show (none:Option (RT T (t::u::ts)))=some x from h)
 | t::u::ts,v::vs,x,h=>by obtain⟨h1,h2⟩:=jb (show lY (UT t v) (ac (u::ts) vs)=some x from h);exact .cons (Rw h1) (Rx h2)
theorem Dm (ts:List VT) (x:RT T ts): ∀ v∈BQ ts x,oA v:=fun v hv H n=>K0.1 (P8 (H:=H) (nx:=n) ts x) v hv
def Lg (tm:Tm T):List (Nat×VSp)->Option (List (DV T))
 | []=>some []
 | (s,p)::r=>match zG p (lk tm s),Lg tm r with
   | some a,some b=>some (a++b)
   | _,_=>none
def FH:List (Nat×VSp)->List (DV T)->Ac T->Option (Ac T×List (DV T))
 | [],vs,st=>some (st,vs)
 | (s,p)::r,vs,st=>match ov p vs with
   | some (v,us)=>FH r us (st.put (some s) v)
   | none=>none
theorem HX {H:Aq T} {Tz:Ac T}: ∀ {l:List (Nat×VSp)} {vs us:List (DV T)} {st an:Ac T} {H1:Aq T},Nx H Tz H1 st->(∀ v∈vs,oA v)->FH l vs st=some (an,us)->
 (∃ H',Nx H Tz H' an)/\(∀ v∈us,oA v)/\an.so=st.so/\an.gh=st.gh/\an.pre=st.pre/\an.m=st.m
 | [],vs,us,st,an,H1,hn,hv,h=>by simp only [FH,injEq,Prod.mk.injEq]at h;grind
 | (s,p)::r,vs,us,st,an,H1,hn,hv,h=>by
   simp only [FH]at h;split at h
   ·rename_i v us1 h1;obtain⟨a,b⟩:=vZ hv h1;obtain⟨H2,h2⟩:=Ac.r_ hn (some s) (a H1 _);obtain⟨c1,c2,c3,c4,c5,c6⟩:=HX h2 b h;exact⟨c1,c2,c3,c4,c5,c6⟩
   ·cases h
theorem ru (st:Ac T) (s i:Nat) (v:DV T):lk (st.put (some s) v).tm i=if s=i then v else lk st.tm i:=by
 simp only [Ac.put,lk];by_cases h:s=i
 ·simp_all
 ·rw [if_neg h];grind [eq_of_beq_eq_true]
theorem Yo {tm:Tm T}: ∀ {l:List (Nat×VSp)} {vs vs' us us':List (DV T)} {st an:Ac T},Lg tm l=some vs->abX vY vs vs'->FH l (vs'++us) st=some (an,us')->(∀ i,US (lk tm i).toV (lk st.tm i).toV)->
 us'=us/\ ∀ i,US (lk tm i).toV (lk an.tm i).toV
 | [],vs,vs',us,us',st,an,h,hw,hi,hs=>by
   simp only [Lg,injEq]at h;subst h;cases hw
   simp only [FH,nil_append,injEq,Prod.mk.injEq]at hi;grind
 | (s,p)::r,vs,vs',us,us',st,an,h,hw,hi,hs=>by
   simp only [Lg]at h;split at h
   ·rename_i a b h1 h2;injection h with h;subst h;obtain⟨x,y,rfl,k1,k2⟩:=abX.abx hw;simp only [FH]at hi;split at hi
    ·rename_i v us1 h3;rw [append_assoc]at h3;obtain⟨e,hv⟩:=oz h1 k1 h3;subst e;refine Yo h2 k2 hi fun i=>?_;rw [ru];split
     ·rename_i e;subst e;exact hv
     ·exact hs i
    ·cases hi
   ·cases h
def zH (l:List (DE T)) (id:Ad) (p:ESp):Option (List (DV T)):=match EK l id,p with
 | some e, .box sg=>match e.x with
   | .box cs=>match lN cs,HW sg cs with
     | false,some (vs,[])=>some vs
     | _,_=>none
   | _=>none
 | some e, .row E0=>match e.x with
   | .row E l=>match Nat.beq E E0 with
     | true=>some [.c (.k (.w_ E) l)]
     | false=>none
   | _=>none
 | some e, .deep E0=>match e.x with
   | .deep E n l none=>match Nat.beq E E0 with
     | true=>some [.c (.k (.int .i64) n), .c (.k (.w_ E) l)]
     | false=>none
   | _=>none
 | none,_=>none
def jc:ESp->List (DV T)->Option (DX T×List (DV T))
 | .box sg,vs=>match Eg sg vs with
   | some (cs,us)=>some (.box cs,us)
   | none=>none
 | .row E0, .c (.k (.w_ E) l)::vs=>match Nat.beq E E0 with
   | true=>some (.row E l,vs)
   | false=>none
 | .deep E0, .c (.k (.int .i64) n):: .c (.k (.w_ E) l)::vs=>match Nat.beq E E0 with
   | true=>some (.deep E n l none,vs)
   | false=>none
 | _,_=>none
def dnC (T:AX):Kd->C->C
 | .w_ F, .sl n cs=> .isl F (T.sz F) n cs
 | _,c=>c
def zI (T:AX):List Kd->List C->List C
 | k::ks,c::cs=>dnC T k c::zI T ks cs
 | _,_=>[]
theorem UU: ∀ (ks:List Kd) (y:DK T.den ks),Bj T ks y=zI T ks (Bd T.enc ks y)
 | [],_=>rfl
 | k::ks,y=>by simp only [Bj,Bd,zI];rw [UU ks y.2];cases k<;>rfl
theorem v9 {E:Nat} {x y:T.den E} (h:T.enc E x=T.enc E y):T.Z_ E x=T.Z_ E y:=by unfold AX.Z_;rw [UU,UU,T.V_,T.V_,h]
theorem Yp {E:Nat} {n:Int}: ∀ {l m:List (T.den E)} {k:Int},l.length=m.length->l.flatMap (T.enc E)=m.flatMap (T.enc E)->Av T E n k l=Av T E n k m
 | [],[],_,_,_=>rfl
 | [],_::_,_,h,_=>by simp at h
 | _::_,[],_,h,_=>by simp at h
 | x::l,y::m,k,h,q=>by simp only [flatMap_cons]at q;obtain⟨q1,q2⟩:=List.append_inj q (by rw [AG,AG]);simp only [Av];rw [q1,v9 q1,Yp (by simpa using h) q2]
def Oo (l:List (DE T)):List (Ad×ESp)->Option (List (DV T))
 | []=>some []
 | (id,p)::r=>match zH l id p,Oo l r with
   | some a,some b=>some (a++b)
   | _,_=>none
def Ac.ajR (st:Ac T) (id:Ad) (x:DX T):Ac T:={st with so:=⟨id,st.nx,x⟩::st.so,nx:=st.nx+1}
def ek (id:Ad):List (DE T)->Bool
 | []=>false
 | e::r=>match AP e.id id with
   | true=>true
   | false=>ek id r
theorem UV {id:Ad}: ∀ {l:List (DE T)},ek id l=false-> ∀ e∈l,e.id ≠ id
 | [],_,_,h=>by cases h
 | a::r,h,e,he=>by
   unfold ek at h;split at h
   ·cases h
   ·rename_i hb;rcases mem_cons.1 he with rfl | he
    ·intro q;rw [AE.2 q]at hb;cases hb
    ·exact UV h e he
def F9:List (Ad×ESp)->List (DV T)->Ac T->Option (Ac T×List (DV T))
 | [],vs,st=>some (st,vs)
 | (id,p)::r,vs,st=>match jc p vs,ek id st.so with
   | some (x,us),false=>F9 r us (st.ajR id x)
   | _,_=>none
theorem wc {p:ESp} {vs us:List (DV T)} {x:DX T} (hv: ∀ v∈vs,oA v) (h:jc p vs=some (x,us)):x.ok/\ ∀ v∈us,oA v:=by
 unfold jc at h;split at h
 ·split at h
  ·rename_i cs us1 h1;simp only [injEq,Prod.mk.injEq]at h;obtain⟨rfl,rfl⟩:=h;exact I5 hv h1
  ·cases h
 ·split at h
  ·simp only [injEq,Prod.mk.injEq]at h;obtain⟨rfl,rfl⟩:=h;exact⟨trivial,(by grind)⟩
  ·cases h
 ·split at h
  ·simp only [injEq,Prod.mk.injEq]at h;obtain⟨rfl,rfl⟩:=h;exact⟨trivial,(by grind)⟩
  ·cases h
 ·cases h
theorem wd {H H1:Aq T} {Tz st:Ac T} (hn:Nx H Tz H1 st) {id:Ad} {x:DX T} (hx:x.ok) (hid:ek id st.so=false): ∃ H',Nx H Tz H' (st.ajR id x):=by
 have he:=Ch.C_ H1 st.nx ⟨id,st.nx,x⟩;refine⟨H1.C_ st.nx ⟨id,st.nx,x⟩,hn.trans ⟨he,le_succ _,?_,?_,?_,?_⟩⟩
 ·exact Bn he (le_succ _) hn.ok.tm
 ·exact fun f hf=>Bn he (le_succ _) (hn.ok.gh f hf)
 ·intro e hm;rcases mem_cons.1 hm with rfl | hm
  ·exact⟨Nat.lt_succ_self _,by simp [Aq.C_],hx⟩
  ·exact DM he (le_succ _) hn.ok.so e hm
 ·simp only [Ac.ajR,map_cons];refine nodup_cons.2 ⟨fun hm=>?_,hn.ok.nd⟩;grind [UV]
theorem JE {H:Aq T} {Tz:Ac T}: ∀ {l:List (Ad×ESp)} {vs us:List (DV T)} {st an:Ac T} {H1:Aq T},Nx H Tz H1 st->(∀ v∈vs,oA v)->F9 l vs st=some (an,us)->
 (∃ H',Nx H Tz H' an)/\an.tm=st.tm/\an.gh=st.gh/\an.pre=st.pre/\an.m=st.m
 | [],vs,us,st,an,H1,hn,hv,h=>by simp only [F9,injEq,Prod.mk.injEq]at h;grind
 | (id,p)::r,vs,us,st,an,H1,hn,hv,h=>by
   simp only [F9]at h;split at h
   ·rename_i x us1 h1 h2;obtain⟨a,b⟩:=wc hv h1;obtain⟨H2,h3⟩:=wd hn a h2;obtain⟨c1,c2,c3,c4,c5⟩:=JE h3 b h;exact⟨c1,c2,c3,c4,c5⟩
   ·cases h
def we (l:List (DE T)) (e':DE T):Prop:=e'.toE∈l.map DE.toE\/ ∃ cs Tk,(⟨e'.id,none,cs,false⟩:Ar)∈l.map DE.toE/\e'.toE=⟨e'.id,none,Tk,false⟩/\Dl cs Tk/\Zo cs=false
theorem oB {l:List (DE T)} {id:Ad} {p:ESp} {vs vs' us us':List (DV T)} {x:DX T} (h:zH l id p=some vs) (hw:abX vY vs vs') (hi:jc p (vs'++us)=some (x,us')) (t:Nat):us'=us/\we l ⟨id,t,x⟩:=by
 unfold zH at h;split at h
 ·rename_i e sg he;obtain⟨m1,m2,_⟩:=B8 he;split at h
  ·rename_i cs hx;split at h
   ·rename_i vs1 hm h1;injection h with h;subst h;simp only [jc]at hi;split at hi
    ·rename_i Tk us1 h2;simp only [injEq,Prod.mk.injEq]at hi;obtain⟨rfl,rfl⟩:=hi;obtain⟨a,b,d⟩:=E5 h1 hw h2;simp only [Ap,append_nil]at b;refine⟨a, .inr ⟨Ap cs,Ap Tk,(by grind [DE.toE_box]),rfl,b,(by grind [X2,qF])⟩⟩
    ·cases hi
   ·cases h
  ·cases h
 ·rename_i e E0 he;obtain⟨m1,m2,_⟩:=B8 he;split at h
  ·rename_i E l' hx;split at h
   ·rename_i hE;have hE:=eq_of_beq_eq_true hE;subst hE;injection h with h;subst h;cases hw with
    | cons k1 k2=>
      cases k2
      rcases k1 with ⟨c,c',e1,e2,e3,e4⟩ | ⟨_,_,e1,_⟩
      ·injection e1 with e1;subst e1 e2;simp only [cons_append,nil_append]at hi;unfold jc at hi;split at hi
       ·grind
       ·rename_i E0 E' l'' vs0 q1 q2;injection q1 with q1;subst q1;injection q2 with q2 q3;injection q2 with q2;subst q2 q3;split at hi
        ·rename_i hE;have hE:=eq_of_beq_eq_true hE;subst hE;simp only [injEq,Prod.mk.injEq]at hi;obtain⟨rfl,rfl⟩:=hi;refine⟨rfl, .inl (mem_map.2 ⟨e,m1,?_⟩)⟩;grind [DC.toC,AW,EJ,DE.toE]
        ·cases hi
       all_goals grind
      ·cases e1
   ·cases h
  ·cases h
 ·rename_i e E0 he;obtain⟨m1,m2,_⟩:=B8 he;split at h
  ·rename_i E n l' hx;split at h
   ·rename_i hE;have hE:=eq_of_beq_eq_true hE;subst hE;injection h with h;subst h;cases hw with
    | cons k1 k2=>
      cases k2 with
      | cons k3 k4=>
        cases k4
        rcases k1 with ⟨c,c',e1,e2,e3,e4⟩ | ⟨_,_,e1,_⟩
        ·rcases k3 with ⟨d,d',f1,f2,f3,f4⟩ | ⟨_,_,f1,_⟩
         ·injection e1 with e1;injection f1 with f1;subst e1 e2 f1 f2;simp only [cons_append,nil_append]at hi;unfold jc at hi;split at hi
          ·grind
          ·grind
          ·rename_i E1 n' E2 l'' vs0 q1 q2;injection q1 with q1;subst q1;injection q2 with q2 q3;injection q2 with q2;injection q3 with q3 q4;injection q3 with q3;subst q2 q3 q4;split at hi
           ·rename_i hE;have hE:=eq_of_beq_eq_true hE;subst hE;simp only [injEq,Prod.mk.injEq]at hi;obtain⟨rfl,rfl⟩:=hi;refine⟨rfl, .inl (mem_map.2 ⟨e,m1,?_⟩)⟩;grind [DC.toC,AW,EJ,DE.toE,A2,Yp]
           ·cases hi
          ·cases hi
         ·cases f1
        ·cases e1
   ·cases h
  ·cases h
 ·cases h
end Go.PL
namespace Go.PL
open Go Go.RowKit
variable {T:AX}
theorem ep {L:List (DE T)}: ∀ {l:List (Ad×ESp)} {vs vs' us us':List (DV T)} {st an:Ac T},Oo L l=some vs->abX vY vs vs'->F9 l (vs'++us) st=some (an,us')->(∀ e∈st.so,we L e)->
 us'=us/\ ∀ e∈an.so,we L e
 | [],vs,vs',us,us',st,an,h,hw,hi,hs=>by
   simp only [Oo,injEq]at h;subst h;cases hw
   simp only [F9,nil_append,injEq,Prod.mk.injEq]at hi;grind
 | (id,p)::r,vs,vs',us,us',st,an,h,hw,hi,hs=>by
   simp only [Oo]at h;split at h
   ·rename_i a b h1 h2;injection h with h;subst h;obtain⟨x,y,rfl,k1,k2⟩:=abX.abx hw;simp only [F9]at hi;split at hi
    ·rename_i v us1 h3 h4;rw [append_assoc]at h3;obtain⟨e,hv⟩:=oB h1 k1 h3 st.nx;subst e;refine ep h2 k2 hi fun e he=>?_;rcases mem_cons.1 he with rfl | he
     all_goals grind
    ·cases hi
   ·cases h
def E6 (ks:List Nat):Tm T->Tm T
 | []=>[]
 | (s,t,v)::r=>match F7 ks s with
   | true=>(s,t,v)::E6 ks r
   | false=>E6 ks r
def Ns:List Ad->Ad->Bool
 | [],_=>false
 | a::l,b=>match AP a b with
   | true=>true
   | false=>Ns l b
def Nt (ke:List Ad):List (DE T)->List (DE T)
 | []=>[]
 | e::r=>match Ns ke e.id with
   | true=>e::Nt ke r
   | false=>Nt ke r
theorem JF {ks:List Nat}: ∀ {tm:Tm T} {x:Nat×Nat×DV T},x∈E6 ks tm->x∈tm
 | [],_,h=>h
 | (s,t,v)::r,x,h=>by
   unfold E6 at h;split at h
   ·rcases mem_cons.1 h with rfl | h
    ·simp
    ·simp [JF h]
   ·simp [JF h]
theorem L8 {ks:List Nat} (i:Nat): ∀ tm:Tm T,lk (E6 ks tm) i=(match F7 ks i with | true=>lk tm i | false=> .u)
 | []=>by cases F7 ks i<;>rfl
 | (s,t,v)::r=>by
   have ih:=L8 (ks:=ks) i r;unfold E6;cases hs:F7 ks s with
   | true=>
     simp only [lk];cases hb:Nat.beq s i with
     | true=>
       have:=eq_of_beq_eq_true hb;subst this;rw [hs]
     | false=>exact ih
   | false=>
     simp only;rw [ih];cases hi:F7 ks i with
     | true=>
       simp only [lk];cases hb:Nat.beq s i with
       | true=>
         have:=eq_of_beq_eq_true hb;subst this;rw [hs]at hi;cases hi
       | false=>rfl
     | false=>rfl
theorem Nu {b:Ad}: ∀ {l:List Ad},Ns l b=true↔b∈l
 | []=>by simp [Ns]
 | a::l=>by
   unfold Ns;cases h:AP a b with
   | true=>have:=AE.1 h;subst this;simp
   | false=>
     have:b ≠ a:=fun e=>by rw [AE.2 e.symm]at h;cases h
     simp [Nu (l:=l),this]
theorem E7 (ke:List Ad): ∀ l:List (DE T),(Nt ke l).Sublist l/\ ∀ e∈Nt ke l,e.id∈ke
 | []=>⟨List.Sublist.slnil,fun _ h=>by cases h⟩
 | e::r=>by
   obtain⟨a,b⟩:=E7 ke r;unfold Nt;split
   ·rename_i h;refine⟨a.cons_cons _,fun x hx=>?_⟩;rcases mem_cons.1 hx with rfl | hx
    all_goals grind [Nu]
   grind
def FG.base (sh:FG) (st:Ac T):Ac T:={st with tm:=E6 sh.ks st.tm,so:=Nt sh.ke st.so}
theorem FG.acI {H:Aq T} (sh:FG) {st:Ac T} (h:Ay H st):Nx H st H (sh.base st):=
 ⟨Ch.refl _ _,le_refl _,fun s t v hm=>h.tm s t v (JF hm),h.gh,fun e he=>h.so e ((E7 _ _).1.subset he),List.Sublist.nodup ((E7 _ _).1.map _) h.nd⟩
def FG.inst (sh:FG) (st:Ac T) (vs:List (DV T)):Option (Ac T):=match FH sh.vs vs (sh.base st)with
 | some (s,us)=>match F9 sh.es us s with
   | some (s',_)=>some s'
   | none=>none
 | none=>none
theorem FG.ab6 {H:Aq T} {sh:FG} {st s':Ac T} (h:Ay H st) {vs:List (DV T)} (hv: ∀ v∈vs,oA v) (hi:sh.inst st vs=some s'): ∃ H',Nx H st H' s':=by
 unfold FG.inst at hi;split at hi
 ·rename_i s us h1;split at hi
  ·rename_i s2 us2 h2;injection hi with hi;subst hi;obtain⟨⟨H1,a⟩,b,_⟩:=HX (sh.acI h) hv h1;exact(JE a b h2).1
  ·cases hi
 ·cases hi
def lZ (ks:List Nat) (tm tm0:Tm T):Bool:=match ks with
 | []=>true
 | s::r=>match Nat.beq (T7 tm s) (T7 tm0 s)with
   | true=>lZ r tm tm0
   | false=>false
def eu (ke:List Ad) (l l0:List (DE T)):Bool:=match ke with
 | []=>true
 | i::r=>match EK l0 i with
   | none=>eu r l l0
   | some b=>match EK l i with
     | some a=>match Nat.beq a.tag b.tag with
       | true=>eu r l l0
       | false=>false
     | none=>false
def oC:Tm T->Tm T->Bool
 | [],[]=>true
 | (s,t,_)::r,(s',t',_)::r'=>match Nat.beq s s'&&Nat.beq t t' with
   | true=>oC r r'
   | false=>false
 | _,_=>false
def oD:List (Nat×Tm T)->List (Nat×Tm T)->Bool
 | [],[]=>true
 | (m,tm)::r,(m',L_)::r'=>match Nat.beq m m'&&oC tm L_ with
   | true=>oD r r'
   | false=>false
 | _,_=>false
theorem UW: ∀ {ks:List Nat} {tm tm0:Tm T},lZ ks tm tm0=true-> ∀ s,F7 ks s=true->T7 tm s=T7 tm0 s
 | [],_,_,_,s,hs=>by simp [F7]at hs
 | a::r,tm,tm0,h,s,hs=>by
   unfold lZ at h;split at h
   ·rename_i hb;rw [Dd]at hs;rcases mem_cons.1 hs with rfl | hs
    ·exact eq_of_beq_eq_true hb
    ·exact UW h s (Dd.2 hs)
   ·cases h
theorem Nv: ∀ {ke:List Ad} {l l0:List (DE T)},eu ke l l0=true-> ∀ i∈ke, ∀ b,EK l0 i=some b-> ∃ a,EK l i=some a/\a.tag=b.tag
 | [],_,_,_,i,hi=>by cases hi
 | k::r,l,l0,h,i,hi=>by
   unfold eu at h;intro b hb;rcases mem_cons.1 hi with rfl | hi
   ·rw [hb]at h;simp only at h;split at h
    ·rename_i a h1;split at h
     ·rename_i hq;exact⟨a,h1,eq_of_beq_eq_true hq⟩
     ·cases h
    ·cases h
   ·split at h
    ·exact Nv h i hi b hb
    ·split at h
     ·split at h
      ·exact Nv h i hi b hb
      ·cases h
     ·cases h
theorem Yq {H H':Aq T} {n n':Nat} (he:Ch n H H'): ∀ {tm L_:Tm T},oC L_ tm=true->Ng H n tm->Ng H' n' L_->L_=tm
 | [],[],_,_,_=>rfl
 | [],_::_,h,_,_=>by simp [oC]at h
 | _::_,[],h,_,_=>by simp [oC]at h
 | (s,t,v)::r,(s',t',v')::r',h,a,b=>by
   unfold oC at h;split at h
   ·rename_i hb;simp only [and_eq_true,beq_eq]at hb;obtain⟨rfl,rfl⟩:=hb;obtain⟨a1,a2,_⟩:=a s' t' v (by simp);obtain⟨_,b2,_⟩:=b s' t' v' (by simp);have:v'=v:=by rw [<-a2, <-b2,(he t' a1).1]
    subst this;rw [Yq he h (fun s t v hm=>a s t v (by simp [hm])) (fun s t v hm=>b s t v (by simp [hm]))]
   ·cases h
theorem Yr {H H':Aq T} {n n':Nat} (he:Ch n H H'): ∀ {l l':List (Nat×Tm T)},oD l' l=true->(∀ f∈l,Ng H n f.2)->(∀ f∈l',Ng H' n' f.2)->l'=l
 | [],[],_,_,_=>rfl
 | [],_::_,h,_,_=>by simp [oD]at h
 | _::_,[],h,_,_=>by simp [oD]at h
 | (m,tm)::r,(m',L_)::r',h,a,b=>by
   unfold oD at h;split at h
   ·rename_i hb;simp only [and_eq_true,beq_eq]at hb;obtain⟨rfl,hb⟩:=hb;rw [Yq he hb (by simp_all) (b (m',L_) (by simp)),Yr he h (by grind) (fun f hm=>b f (by simp [hm]))]
   ·cases h
def D3:List Ad->Ac T->Ac T
 | [],st=>st
 | i::r,st=>match st.frz i with
   | some s=>D3 r s
   | none=>D3 r st
theorem Eh {H0:Aq T} {Tz:Ac T}: ∀ {l:List Ad} {st:Ac T} {H:Aq T},Nx H0 Tz H st->(∃ H',Nx H0 Tz H' (D3 l st))/\Wk st.toSt (D3 l st).toSt
 | [],st,H,h=>⟨⟨H,h⟩,Wk.less (B0.refl _)⟩
 | i::r,st,H,h=>by
   unfold D3;split
   ·rename_i s hs;obtain⟨⟨H1,a⟩,b,_⟩:=Ac.acG h.ok hs;obtain⟨c,d⟩:=Eh (l:=r) (h.trans a);grind [Wk.trans,Wk.frz]
   ·exact Eh (l:=r) h
def yD:List (Ad×ESp)->List Ad
 | []=>[]
 | (i,_)::r=>i::yD r
def rz (tm:Tm T):List (Nat×VSp)->List Ad
 | []=>[]
 | (s,_)::r=>lX (lk tm s)++rz tm r
def ae (l:List (DE T)):List (Ad×ESp)->List Ad
 | []=>[]
 | (i,_)::r=>match EK l i with
   | some e=>match e.x with
     | .box cs=>Yk cs++ae l r
     | _=>ae l r
   | none=>ae l r
def rA (l:List Ad):List Ad->List Ad
 | []=>[]
 | i::r=>match Ns l i with
   | true=>rA l r
   | false=>i::rA l r
def FG.frz (sh:FG) (st:Ac T):List Ad:=rA (sh.ke++yD sh.es) (rz st.tm sh.vs++ae st.so sh.es)
def FG.ajG (sh:FG) (Tz s:Ac T):Option (RT T sh.ts):=
 match lZ sh.ks s.tm Tz.tm&&(eu sh.ke s.so Tz.so&&(oD s.gh Tz.gh&&(Nat.beq s.m Tz.m&&AP s.pre Tz.pre)))with
 | true=>match Lg s.tm sh.vs,Oo s.so sh.es with
   | some a,some b=>ac sh.ts (a++b)
   | _,_=>none
 | false=>none
def FG.gen (sh:FG) (Tz an:Ac T):Option (RT T sh.ts):=sh.ajG Tz (D3 (sh.frz an) an)
theorem ah {l:List (DE T)} (hn:(l.map DE.id).Nodup): ∀ {e:DE T},e∈l->EK l e.id=some e:=by
 induction l with
 | nil=>grind
 | cons a r ih=>
   intro e h;rw [map_cons]at hn;obtain⟨n1,n2⟩:=nodup_cons.1 hn;unfold EK;split
   ·rename_i hb;have hb:=AE.1 hb;grind
   ·rename_i hb;rcases mem_cons.1 h with rfl | h
    ·rw [AE.2 rfl]at hb;cases hb
    grind
theorem FG.ah9 {H H':Aq T} {sh:FG} {Tz s s1:Ac T} (h0:Ay H Tz) (hN:Nx H Tz H' s) {x:RT T sh.ts} (hg:sh.ajG Tz s=some x) (hi:sh.inst Tz (BQ sh.ts x)=some s1):Wkn s.toSt s1.toSt:=by
 unfold FG.ajG at hg;split at hg
 ·rename_i hb;simp only [and_eq_true,beq_eq]at hb;obtain⟨k1,k2,k3,k4,k5⟩:=hb;split at hg
  ·rename_i a b ga gb;have hw:=Rx hg;obtain⟨va,vb,hv,wa,wb⟩:=abX.abx hw;unfold FG.inst at hi;split at hi
   ·rename_i s2 us h1;split at hi
    ·rename_i s3 us2 h2;injection hi with hi;subst hi;rw [hv]at h1;have hpv:=Dm sh.ts x;rw [hv]at hpv;obtain⟨⟨H1,n1⟩,n2,n3,n4,n5,n6⟩:=HX (sh.acI h0) hpv h1;have aiH: ∀ i,US (lk s.tm i).toV (lk (sh.base Tz).tm i).toV :=by
      intro i;show US (lk s.tm i).toV (lk (E6 sh.ks Tz.tm) i).toV;rw [L8];cases hm:F7 sh.ks i with
      | false=>simp only [DV.toV];intro w G u _;simp only [Aa]
      | true=>
        simp only;have ht:=UW k1 i hm;have:lk s.tm i=lk Tz.tm i:=by
         rcases Oa Tz.tm i with ⟨q1,q2⟩ | ⟨t,q1,q2⟩
         ·grind [Oa]
         ·obtain⟨p1,p2⟩:=T8 h0.tm q2;obtain⟨p3,p4⟩:=T8 hN.ok.tm (ht.trans q2);rw [<-p2, <-p4,(hN.ext t p1).1]
        grind [US.refl]
     obtain⟨e1,hsl⟩:=Yo (us:=vb) ga wa h1 aiH;subst e1;have hpb: ∀ v∈us,oA v:=n2;obtain⟨⟨H2,m1⟩,m2,m3,m4,m5⟩:=JE n1 hpb h2;have an6: ∀ e∈s2.so,we s.so e:=by
      intro e he;rw [n3]at he;have he:e∈Nt sh.ke Tz.so:=he;have hid:=(E7 sh.ke Tz.so).2 e he;have adR:=(E7 sh.ke Tz.so).1.subset he;obtain⟨a',q1,q3⟩:=Nv k2 e.id hid e (ah h0.nd adR);obtain⟨t1,t2,_⟩:=h0.so e adR;obtain⟨u1,u2,_⟩:=B8 q1;obtain⟨v1,v2,_⟩:=hN.ok.so a' u1;have:a'=e:=by rw [<-t2, <-v2,q3,(hN.ext e.tag t1).2]
      subst this;exact .inl (mem_map.2 ⟨a',u1,rfl⟩)
     have h2':F9 sh.es (us++[]) s2=some (s3,us2):=by grind
     obtain⟨_,hen⟩:=ep gb wb h2' an6;have hgh:=Yr hN.ext k3 h0.gh hN.ok.gh;exact {
      len:=by simp only [Ac.toSt,Aw,List.length_map,List.length_range];rw [m5,n6,k4];rfl
      tm:=fun i=>by show US ((Aw s.m s.tm).getD i .undef) ((Aw s3.m s3.tm).getD i .undef);rw [IV,IV,m5,n6,m2];have:(sh.base Tz).m =s.m:=k4.symm;grind [US.refl]
      so:=fun e' X_=>by
       obtain⟨d,hd,rfl⟩:=mem_map.1 X_;rcases hen d hd with q | ⟨cs,Tk,q1,q2,q3,q4⟩
       ·exact .inl q
       ·exact .inr ⟨cs,Tk,by rw [DE.toE_id];exact q1,by grind,q3,q4⟩
      nd:=by
       have:=m1.ok.nd;show ((s3.so.map DE.toE).map Ar.id).Nodup;rw [map_map];have e:(Ar.id ∘ DE.toE:DE T->Ad)=DE.id:=by grind [DE.toE_id]
       grind
      gh:=by simp only [Ac.toSt];rw [m3,n4,hgh];rfl
      pre:=by simp only [Ac.toSt];rw [m4,n5,AE.1 k5];rfl}
    ·cases hi
   ·cases hi
  ·cases hg
 ·cases hg
theorem FG.abU {H H':Aq T} {sh:FG} {Tz an s1:Ac T} (h0:Ay H Tz) (hN:Nx H Tz H' an) {x:RT T sh.ts} (hg:sh.gen Tz an=some x) (hi:sh.inst Tz (BQ sh.ts x)=some s1):Wk an.toSt s1.toSt:=by obtain⟨⟨H1,a⟩,b⟩:=Eh (l:=sh.frz an) hN;exact b.trans (Wk.wkn (FG.ah9 h0 a hg hi))
end Go.PL
namespace Go.PL
open Go Go.RowKit
variable {T:AX}
def Er:Nat->List (DV T)->Ac T->Ac T
 | _,[],st=>st
 | i,v::vs,st=>Er (i+1) vs (st.put (some i) v)
theorem Nw {H:Aq T} {Tz:Ac T}: ∀ {vs:List (DV T)} {i:Nat} {st:Ac T} {H1:Aq T},Nx H Tz H1 st->B7 H Tz.nx vs-> ∃ H',Nx H Tz H' (Er i vs st)
 | [],_,st,H1,h,_=>⟨H1,h⟩
 | v::vs,i,st,H1,h,hv=>by simp only [B7]at hv;obtain⟨H2,h2⟩:=Ac.r_ h (some i) (DV.aa1 h.ext h.le hv.1);show ∃ H',Nx H Tz H' (Er (i+1) vs (st.put (some i) v));exact Nw h2 hv.2
theorem JG: ∀ (vs:List (DV T)) (i:Nat) (st:Ac T),(Er i vs st).so =st.so/\(Er i vs st).gh =st.gh/\(Er i vs st).pre =st.pre/\(Er i vs st).m =st.m
 | [],_,_=>⟨rfl,rfl,rfl,rfl⟩
 | v::vs,i,st=>JG vs (i+1) (st.put (some i) v)
theorem Ny: ∀ (vs:List (DV T)) (i:Nat) (st:Ac T) (j:Nat),lk (Er i vs st).tm j=if i<=j/\j<i+vs.length then vs.getD (j - i) .u else lk st.tm j
 | [],i,st,j=>by rw [if_neg (by simp)];rfl
 | v::vs,i,st,j=>by rw [Er,Ny vs (i+1) _ j,ru];grind
def Ac.enter (st:Ac T) (k:Nat) (args:List (DV T)) (n:Nat):Ac T:=Er 0 args ⟨n,[],st.so,(st.m,st.tm)::st.gh,k::st.pre,st.nx⟩
theorem rB {H:Aq T} {st:Ac T} (h:Ay H st) (k:Nat) {args:List (DV T)} (n:Nat) (ha:B7 H st.nx args): ∃ H',Nx H st H' (st.enter k args n):=by
 refine Nw (H1:=H) (st:=⟨n,[],st.so,(st.m,st.tm)::st.gh,k::st.pre,st.nx⟩) ⟨Ch.refl _ _,le_refl _,⟨fun _ _ _ hm=>by simp at hm,fun f hf=>?_,h.so,h.nd⟩⟩ ha;rcases mem_cons.1 hf with rfl | hf
 ·exact h.tm
 ·exact h.gh f hf
theorem UX {m:Nat} {tm:Tm T} {vs:List (DV T)} (hl:vs.length<=m) (h: ∀ j,lk tm j=if j<vs.length then vs.getD j .u else .u):Aw m tm=AQ vs++List.replicate (m - (AQ vs).length) .undef :=by
 rw [FC];apply List.ext_getElem?;intro i;unfold Aw;rw [List.getElem?_map];by_cases hi:i<vs.length
 ·rw [List.getElem?_range (by omega),List.getElem?_append_left (by rw [FC];exact hi)];simp_all [KZ]
 ·rw [getElem?_append_right (by rw [FC];omega),FC,List.getElem?_replicate];by_cases hm:i<m
  all_goals simp_all [DV.toV]
theorem jd {st:Ac T} {k:Nat} {args:List (DV T)} {n:Nat} (hl:args.length<=n):(st.enter k args n).toSt =st.toSt.enter k (AQ args) n:=by obtain⟨a,b,c,d⟩:=JG args 0 (⟨n,[],st.so,(st.m,st.tm)::st.gh,k::st.pre,st.nx⟩:Ac T);unfold Ac.enter;simp only [Ac.toSt,a,b,c,d,St.enter,flatMap_cons];rw [UX hl];intro j;rw [Ny];simp only [Nat.zero_le,true_and,zero_add,Nat.sub_zero];rfl
def Ac.back (st Tz:Ac T) (d:Option Nat) (v:DV T):Option (Ac T):=match st.gh with
 | (m',L_)::g=>match Nat.beq m' Tz.m with
   | true=>some (({st with m:=m',tm:=L_,gh:=g,pre:=Tz.pre}:Ac T).put d v)
   | false=>none
 | []=>none
theorem A7 (m:Nat) (tm:Tm T):(Aw m tm).length =m:=by simp [Aw]
theorem oE {H H1:Aq T} {st Tz b:Ac T} {d:Option Nat} {v:DV T} (hN:Nx H Tz H1 st) (hv:v.ok H1 st.nx) (h:st.back Tz d v=some b):(∃ H',Nx H Tz H' b)/\b.toSt=st.toSt.back Tz.m Tz.pre d v.toV/\b.pre=Tz.pre:=by
 unfold Ac.back at h;split at h
 ·rename_i m' L_ g hg;split at h
  ·rename_i hm;have hm:=eq_of_beq_eq_true hm;injection h with h;subst h;have hgh:=hN.ok.gh;rw [hg]at hgh;have n1:Nx H Tz H1 ({st with m:=m',tm:=L_,gh:=g,pre:=Tz.pre}:Ac T):=⟨hN.ext,hN.le,(by simp_all),(by grind),hN.ok.so,hN.ok.nd⟩;refine⟨Ac.r_ n1 d hv,?_,by rw [AH]⟩;grind [Ac.d_,Ac.toSt,St.back,A7]
  ·cases h
 ·cases h
def Ry (P:Program) (st:Ac T):ResultVar->M (DV T)
 | .tmp t=> .ret (st.get t)
 | .cell t Ty=>dK P Ty [] st (st.get t)
def je (P:Program) (st:Ac T):List ResultVar->M (List (DV T))
 | []=> .ret []
 | x::xs=> .y_ (Ry P st x) fun v=> .y_ (je P st xs) fun vs=> .ret (v::vs)
def rC (P:Program) (st:Ac T):List ResultVar->M (DV T)
 | [x]=>Ry P st x
 | xs=> .y_ (je P st xs) fun vs=> .ret (.tup vs)
section
variable {H:Aq T} {P:Program} {st:Ac T}
theorem Hj (hw:Ay H st) (x:ResultVar):Yl (Ry P st x) (fun v=>v.ok H st.nx/\(Mx P st.toSt x).1/\(Mx P st.toSt x).2=v.toV):=by
 cases x with
 | tmp t=>exact Yl.ret ⟨Ac.acW hw t,trivial,by simp only [Mx];exact st.aaa t⟩
 | cell t Ty=>
   refine(Uj (key:=[]) hw (fun _=>Ac.acW hw t)).mono fun v hv=>?_;obtain⟨a,b,c⟩:=hv rfl;simp only [Mx,st.aaa];grind
theorem Ys (hw:Ay H st): ∀ xs:List ResultVar,Yl (je P st xs) (fun vs=>B7 H st.nx vs/\(BR P st.toSt xs).1/\(BR P st.toSt xs).2=AQ vs)
 | []=>Yl.ret (by simp_all [B7,BR,AQ])
 | x::xs=>Yl.y_ (Hj hw x) fun v hv=>Yl.y_ (Ys hw xs) (by simp_all [Yl.ret,B7,BR,AQ])
theorem wg (hw:Ay H st) (xs:List ResultVar):Yl (rC P st xs) (fun v=>v.ok H st.nx/\(BO P st.toSt xs).1/\(BO P st.toSt xs).2=v.toV):=by
 unfold rC;split
 ·rename_i x;exact Hj hw x
 ·rename_i n_;refine Yl.y_ (Ys hw _) fun vs hvs=>Yl.ret ?_;obtain⟨a,b,c⟩:=hvs;have:BO P st.toSt xs=((BR P st.toSt xs).1, .tup (BR P st.toSt xs).2):=by unfold BO;grind
  simp_all [DV.ok,DV.toV]
end
end Go.PL
namespace Go.PL
open Go Go.RowKit
variable {T:AX}
mutual
def DC.c_ (p:Ad->Bool):DC T->Bool
 | .c x=>x.c_ p
 | .rp i _ _ _=>p i
 | .ap i _ _ _ _ _=>p i
 | .bs i _ _ _=>p i
 | .clo _ _ cs=>Nz p cs
 | .k _ _=>false
 | .ip .. =>false
def Nz (p:Ad->Bool):List (DC T)->Bool
 | []=>false
 | c::cs=>match c.c_ p with
   | true=>true
   | false=>Nz p cs
end
mutual
theorem DC.aeq (p:Ad->Bool): ∀ c:DC T,c.c_ p=c.toC.c_ p
 | .c x=>by simp only [DC.c_,DC.toC]
 | .rp .. =>by simp only [DC.c_,DC.toC,C.c_]
 | .ap .. =>by simp only [DC.c_,DC.toC,C.c_]
 | .bs .. =>by simp only [DC.c_,DC.toC,C.c_]
 | .clo true _ cs=>by simp only [DC.c_,DC.toC,C.c_,Ei p cs]
 | .clo false _ cs=>by simp only [DC.c_,DC.toC,C.c_,Ei p cs]
 | .k kd x=>by cases kd<;>simp only [DC.c_,DC.toC,AW,C.c_]
 | .ip .. =>by simp only [DC.c_,DC.toC,C.c_]
theorem Ei (p:Ad->Bool): ∀ cs:List (DC T),Nz p cs=BX p (Ap cs)
 | []=>by simp only [Nz,Ap,BX]
 | c::cs=>by simp only [Nz,Ap,BX,DC.aeq p c,Ei p cs];cases c.toC.c_ p<;>rfl
end
mutual
def DV.c_ (p:Ad->Bool):DV T->Bool
 | .c x=>x.c_ p
 | .agg cs=>Nz p cs
 | .tup vs=>ai p vs
 | .g _ v=>v.c_ p
 | .u =>false
def ai (p:Ad->Bool):List (DV T)->Bool
 | []=>false
 | v::vs=>match v.c_ p with
   | true=>true
   | false=>ai p vs
end
mutual
theorem DV.acB (p:Ad->Bool): ∀ v:DV T,v.c_ p=false->v.toV.c_ p=false
 | .c x,h=>by grind [DV.c_,DV.toV,V.c_,DC.aeq]
 | .agg cs,h=>by grind [DV.c_,DV.toV,V.c_,Ei]
 | .tup vs,h=>by simp only [DV.c_]at h;simp only [DV.toV,V.c_];exact Yt p vs h
 | .g k v,h=>by simp only [DV.c_]at h;simp only [DV.toV,V.c_,DV.acB p v h]
 | .u,_=>by simp only [DV.toV,V.c_]
theorem Yt (p:Ad->Bool): ∀ vs:List (DV T),ai p vs=false->KW p (AQ vs)=false
 | [],_=>by simp only [AQ,KW]
 | v::vs,h=>by
   simp only [ai]at h;split at h
   ·cases h
   ·rename_i hv;simp only [AQ,KW,DV.acB p v hv,Yt p vs h,Bool.or_self]
end
def JH (p:Ad->Bool) (c:DC T):DC T:=match c.c_ p with
 | true=> .c .any
 | false=>c
def DX.c_ (p:Ad->Bool):DX T->Bool
 | .box cs=>Nz p cs
 | .row _ _=>false
 | .deep .. =>false
def L9 (p:Ad->Bool):DX T->DX T
 | .box cs=> .box (cs.map (JH p))
 | x=>x
theorem UY {p:Ad->Bool} {c:DC T} (h:c.ok):(JH p c).ok :=by grind [JH,DC.ok]
theorem Lh (p:Ad->Bool) (c:DC T):(JH p c).toC =BJ p c.toC:=by grind [JH,BJ,DC.aeq,DC.toC]
theorem Ma {p:Ad->Bool} {v:V} (h:v.c_ p=false):A9 p v=v:=by simp_all [A9]
theorem Qb {p:Ad->Bool}: ∀ {l:List C},BX p l=false->l.map (BJ p)=l
 | [],_=>rfl
 | c::l,h=>by simp only [BX,Bool.or_eq_false_iff]at h;rw [map_cons,Qb h.2,BJ,if_neg (by simp [h.1])]
theorem ew {p:Ad->Bool} {e:DE T} (t:Nat):(⟨e.id,t,L9 p e.x⟩:DE T).toE =Ar.a_ p e.toE:=by
 unfold DE.toE;cases hxx:e.x with
 | box cs=>
   simp only [L9,Ar.a_,BT,map_map,Ar.mk.injEq,and_true,true_and];grind [map_congr_left,Lh]
 | row E l=>rfl
 | deep E n l h=>rfl
theorem oF {p:Ad->Bool} {e:DE T} (h:e.x.c_ p=false):Ar.a_ p e.toE=e.toE:=by grind [DE.toE,DX.c_,Ei,Ar.a_,Qb]
theorem Yu {p:Ad->Bool} {m n:Nat} {tm:Tm T}:Gz ((Aw m tm).map (A9 p)) (Aw m (MA (DV.c_ p) (fun _=> .u) n tm)):=by unfold Aw;rw [map_map];refine Gz.map fun i _=>?_;simp only [Function.comp,JB (p:=DV.c_ p) (f:=fun _=>DV.u) (by simp [DV.c_])];grind [DV.toV,Ma,DV.acB]
theorem rD {p:Ad->Bool}: ∀ (l:List (Nat×Tm T)) (n:Nat),Gz ((l.flatMap fun f=>Aw f.1 f.2).map (A9 p)) ((Nk (DV.c_ p) (fun _=> .u) n l).flatMap fun f=>Aw f.1 f.2)
 | [],_=>trivial
 | (m,tm)::r,n=>by simp only [Nk,flatMap_cons,map_append];exact Yu.append (rD r _)
def Ac.s_ (st:Ac T) (p:Ad->Bool):Ac T:=let s:=st.abz (DV.c_ p) (fun _=> .u) (DX.c_ p) (L9 p);{s with so:=s.so.filter fun e=> !(p e.id)}
theorem ey (p:Ad->Bool) (l:List (DE T)):(l.filter fun e=> !(p e.id)).map DE.toE=(l.map DE.toE).filter fun e=> !(p e.id):=by
 induction l with
 | nil=>rfl
 | cons e l ih=>
   simp only [List.filter_cons,map_cons,DE.toE_id];grind
theorem aj (p:Ad->Bool) (l:List Ar):(l.map (Ar.a_ p)).filter (fun e=> !(p e.id))=(l.filter (fun e=> !(p e.id))).map (Ar.a_ p):=by induction l<;>grind [Ar.j_]
theorem Ac.aaB {H:Aq T} {st:Ac T} (h:Ay H st) (p:Ad->Bool):(∃ H',Nx H st H' (st.s_ p))/\Gz (st.toSt.tm.map (A9 p)) (st.s_ p).toSt.tm /\Gz (st.toSt.gh.map (A9 p)) (st.s_ p).toSt.gh /\
 (st.s_ p).toSt.so =(st.toSt.so.filter fun e=> !(p e.id)).map (Ar.a_ p)/\(st.s_ p).pre =st.pre/\ ∀ e∈(st.s_ p).so,p e.id=false:=by
 obtain⟨H',hN⟩:=Ac.abI (p:=DV.c_ p) (f:=fun _=> .u) (q:=DX.c_ p) (g:=L9 p) h (fun _=>by simp only [DV.ok]) (fun {x} hx=>by
  cases x with
  | box cs=>
    simp only [L9,DX.ok]at hx ⊢;refine Cp.2 fun c hc=>?_;obtain⟨d,h1,rfl⟩:=mem_map.1 hc;grind [UY,Cp]
  | row E l=>exact hx
  | deep E n l h=>exact hx)
 refine⟨⟨H',hN.ext,hN.le,Dg hN.ok _⟩,Yu,rD _ _,?_,rfl,fun e he=>?_⟩
 ·show ((Nl (DX.c_ p) (L9 p) (st.nx+st.tm.length+J8 st.gh) st.so).filter fun e=> !(p e.id)).map DE.toE=_;rw [ey,K4 (F:=Ar.a_ p) _ (fun e _=>⟨fun _ t=>ew t,fun hm=>oF hm⟩)];exact aj p _
 ·have:=(mem_filter.1 he).2;grind
def AY:List (Ad×DX T)->Ac T->Ac T
 | [],st=>st
 | (i,x)::r,st=>let s:=AY r st;{s with so:=⟨i,s.nx,x⟩::s.so,nx:=s.nx+1}
def WV (p:Ad×DX T):Ar:=(⟨p.1,0,p.2⟩:DE T).toE
theorem ma (i:Ad) (t:Nat) (x:DX T):(⟨i,t,x⟩:DE T).toE =WV (i,x):=by grind [WV,DE.toE]
theorem Dp: ∀ (l:List (Ad×DX T)) (st:Ac T),(AY l st).tm =st.tm/\(AY l st).gh =st.gh/\(AY l st).pre =st.pre/\(AY l st).m =st.m/\(AY l st).toSt.so =l.map WV++st.toSt.so/\(AY l st).so.map DE.id=l.map (·.1)++st.so.map DE.id
 | [],st=>⟨rfl,rfl,rfl,rfl,rfl,rfl⟩
 | (i,x)::r,st=>by obtain⟨a,b,c,d,e,f⟩:=Dp r st;simp_all [AY,Ac.toSt,ma]
theorem GC {H:Aq T} {Tz st:Ac T}: ∀ {l:List (Ad×DX T)} {H1:Aq T},Nx H Tz H1 st->(∀ p∈l,p.2.ok)->(l.map (·.1)).Nodup ->(∀ p∈l, ∀ e∈st.so,e.id ≠ p.1)-> ∃ H',Nx H Tz H' (AY l st)
 | [],H1,hn,_,_,_=>⟨H1,hn⟩
 | (i,x)::r,H1,hn,hx,hd,hf=>by
   simp only [map_cons,nodup_cons]at hd;obtain⟨H2,h2⟩:=GC hn (by grind) hd.2 (by grind);have he:=Ch.C_ H2 (AY r st).nx ⟨i,(AY r st).nx,x⟩;refine⟨H2.C_ (AY r st).nx ⟨i,(AY r st).nx,x⟩,h2.trans ⟨he,le_succ _,?_,?_,?_,?_⟩⟩
   ·exact Bn he (le_succ _) h2.ok.tm
   ·exact fun f hm=>Bn he (le_succ _) (h2.ok.gh f hm)
   ·intro e hm;rcases mem_cons.1 hm with rfl | hm
    ·exact⟨Nat.lt_succ_self _,by simp [Aq.C_],hx (i,x) (by simp)⟩
    ·exact DM he (le_succ _) h2.ok.so e hm
   ·show (i::(AY r st).so.map DE.id).Nodup;refine nodup_cons.2 ⟨fun hm=>?_,h2.ok.nd⟩;rw [(Dp r st).2.2.2.2.2]at hm;rcases mem_append.1 hm with hm | hm
    ·grind
    ·obtain⟨e,h3,h4⟩:=mem_map.1 hm;simp_all
def wh (m:Nat) (id:Ad):(k:Kd)->L5 T.den k->List (Ad×DX T)
 | .w_ E,l=>match m with
   | 1=>[(id, .row E l)]
   | 2=>[(1000003::id, .deep E (List.length l:Nat) l none)]
   | _=>[]
 | _,_=>[]
def jf:List Nat->Nat->Ad->(ks:List Kd)->DK T.den ks->List (Ad×DX T)
 | m::ms,i,p_,k::ks,x=>wh m (i::p_) k x.1++jf ms (i+1) p_ ks x.2
 | _,_,_,_,_=>[]
def mb:List (List Nat)->Nat->Ad->(ts:List VT)->RT T ts->List (Ad×DX T)
 | m::_,p,p_,[t],x=>jf m 0 (p::p_) (DH T t) (Le t x)
 | m::ms,p,p_,t::u::ts,x=>jf m 0 (p::p_) (DH T t) (Le t x.1)++mb ms (p+1) p_ (u::ts) x.2
 | _,_,_,_,_=>[]
def oG (m:Nat) (id:Ad) (k:Kd) (x:L5 T.den k):DC T:=match MC m k with
 | 0=> .k k x
 | _=>match m with
   | 2=> .c (.l_ (1000003::id))
   | _=> .c (.l_ id)
def Qc:List Nat->Nat->Ad->(ks:List Kd)->DK T.den ks->List (DC T)
 | m::ms,i,p_,k::ks,x=>oG m (i::p_) k x.1::Qc ms (i+1) p_ ks x.2
 | [],i,p_,k::ks,x=> .k k x.1::Qc [] i p_ ks x.2
 | _,_,_,[],_=>[]
def WW (m:List Nat) (p_:Ad):(t:VT)->Dj T t->DV T
 | .k kd,x=> .c (oG (m.headD 0) (0::p_) kd x)
 | .s E,x=> .agg (Qc m 0 p_ (T.ks E) (T.un E x))
 | .f g,_=> .c (.c (.fn g))
def KI:List (List Nat)->Nat->Ad->(ts:List VT)->RT T ts->List (DV T)
 | m::_,p,p_,[t],x=>[WW m (p::p_) t x]
 | [],p,p_,[t],x=>[WW [] (p::p_) t x]
 | m::ms,p,p_,t::u::ts,x=>WW m (p::p_) t x.1::KI ms (p+1) p_ (u::ts) x.2
 | [],p,p_,t::u::ts,x=>WW [] (p::p_) t x.1::KI [] (p+1) p_ (u::ts) x.2
 | _,_,_,[],_=>[]
def dvR (ow:List (List Nat)) (p_:Ad) (ts:List VT) (x:RT T ts):DV T:=match KI ow 0 p_ ts x with
 | [v]=>v
 | vs=> .tup vs
theorem I6 (m:Nat) (id:Ad) (k:Kd) (x:L5 T.den k):(Hh m k x).length =(UM m id k).length /\(UM m id k).length =MC m k:=by
 cases k with
 | w_ E=>
   match m with
   | 0=>exact⟨rfl,rfl⟩
   | 1=>exact⟨rfl,rfl⟩
   | 2=>exact⟨rfl,rfl⟩
   | _+3=>exact⟨rfl,rfl⟩
 | _=>exact⟨rfl,rfl⟩
theorem Ga: ∀ {a b:List OE} {i j:List Ad},a.length=i.length->Ce (a++b) (i++j)=Ce a i++Ce b j
 | [],_,[],_,_=>rfl
 | [],_,_::_,_,h=>by simp at h
 | _::_,_,[],_,h=>by simp at h
 | o::a,b,x::i,j,h=>by simp only [cons_append,Ce,Ga (a:=a) (i:=i) (by simpa using h)]
theorem oH (m:Nat) (id:Ad) (k:Kd) (x:L5 T.den k):(wh m id k x).map WV=Ce (Hh m k x) (UM m id k)/\(wh m id k x).map (·.1)=UM m id k/\ ∀ p∈wh m id k x,p.2.ok:=by
 cases k with
 | w_ E=>
   match m with
   | 0=>exact⟨rfl,rfl,fun p hp=>by cases hp⟩
   | 1=>exact⟨rfl,rfl,fun p hp=>by rcases mem_singleton.1 hp with rfl;trivial⟩
   | 2=>exact⟨rfl,rfl,fun p hp=>by rcases mem_singleton.1 hp with rfl;trivial⟩
   | _+3=>exact⟨rfl,rfl,fun p hp=>by cases hp⟩
 | _=>exact⟨rfl,rfl,fun p hp=>by cases hp⟩
theorem JI: ∀ (ms:List Nat) (i:Nat) (p_:Ad) (ks:List Kd) (x:DK T.den ks),(BM ms ks x).length =(I1 ms i p_ ks).length /\(I1 ms i p_ ks).length =DO ms ks
 | [],_,_,_,_=>⟨rfl,rfl⟩
 | _::_,_,_,[],_=>⟨rfl,rfl⟩
 | m::ms,i,p_,k::ks,x=>by obtain⟨a,b⟩:=JI ms (i+1) p_ ks x.2;obtain⟨c,d⟩:=I6 m (i::p_) k x.1;simp_all [BM,I1,DO]
theorem Qd: ∀ (ms:List Nat) (i:Nat) (p_:Ad) (ks:List Kd) (x:DK T.den ks),(jf ms i p_ ks x).map WV=Ce (BM ms ks x) (I1 ms i p_ ks)/\(jf ms i p_ ks x).map (·.1)=I1 ms i p_ ks/\ ∀ p∈jf ms i p_ ks x,p.2.ok
 | [],_,_,_,_=>⟨rfl,rfl,fun p hp=>by cases hp⟩
 | _::_,_,_,[],_=>⟨rfl,rfl,fun p hp=>by cases hp⟩
 | m::ms,i,p_,k::ks,x=>by obtain⟨a,b,c⟩:=Qd ms (i+1) p_ ks x.2;grind [oH,jf,BM,I1,Ga,I6]
theorem ez: ∀ (ow:List (List Nat)) (p:Nat) (p_:Ad) (ts:List VT) (x:RT T ts),(mb ow p p_ ts x).map WV=Ce (CG ow ts x) (UN T ow p p_ ts)/\(mb ow p p_ ts x).map (·.1)=UN T ow p p_ ts/\ ∀ q∈mb ow p p_ ts x,q.2.ok
 | [],_,_,[],_=>⟨rfl,rfl,fun q hq=>by cases hq⟩
 | [],_,_,[_],_=>⟨rfl,rfl,fun q hq=>by cases hq⟩
 | [],_,_,_::_::_,_=>⟨rfl,rfl,fun q hq=>by cases hq⟩
 | _::_,_,_,[],_=>⟨rfl,rfl,fun q hq=>by cases hq⟩
 | m::ms,p,p_,[t],x=>by
   obtain⟨a,b,c⟩:=Qd m 0 (p::p_) (DH T t) (Le t x);have e:UN T (m::ms) p p_ [t]=I1 m 0 (p::p_) (DH T t):=by cases ms<;>simp [UN]
   rw [e];exact⟨a,b,c⟩
 | m::ms,p,p_,t::u::ts,x=>by
   obtain⟨a,b,c⟩:=Qd m 0 (p::p_) (DH T t) (Le t x.1);obtain⟨a',b',c'⟩:=ez ms (p+1) p_ (u::ts) x.2;refine⟨?_,?_,fun q hq=>?_⟩
   ·grind [mb,CG,UN,Ga,JI]
   all_goals grind [mb,UN]
theorem rE {pre:List Ad} {n:Ad} {post:List Ad}:(pre++([n]++post)).getD pre.length []=n:=by grind
theorem Qe (m:Nat) (id:Ad) (k:Kd) (x:L5 T.den k) (pre post:List Ad):(oG m id k x).toC =(ML m pre.length k x).toC (pre++(UM m id k++post)):=by unfold oG ML UM;grind [PC.toC,DC.toC]
theorem Qf: ∀ (ms:List Nat) (i:Nat) (p_:Ad) (ks:List Kd) (x:DK T.den ks) (pre post:List Ad),Ap (Qc ms i p_ ks x)=(DN ms pre.length ks x).map (PC.toC (pre++(I1 ms i p_ ks++post)))
 | [],_,_,[],_,_,_=>by simp [Qc,DN,Ap]
 | _::_,_,_,[],_,_,_=>by simp [Qc,DN,Ap]
 | [],i,p_,k::ks,x,pre,post=>by have:=Qf [] i p_ ks x.2 pre post;simp only [Qc,DN,Ap,map_cons,PC.toC,DC.toC,List.cons.injEq,true_and];exact this
 | m::ms,i,p_,k::ks,x,pre,post=>by have h1:=Qe m (i::p_) k x.1 pre (I1 ms (i+1) p_ ks++post);have h2:=Qf ms (i+1) p_ ks x.2 (pre++UM m (i::p_) k) post;rw [length_append,(I6 m (i::p_) k x.1).2]at h2;grind [Qc,DN,Ap,I1]
theorem Mb (m:List Nat) (p_:Ad) (t:VT) (x:Dj T t) (pre post:List Ad):(WW m p_ t x).toV =(F2 m pre.length t x).toV (pre++(I1 m 0 p_ (DH T t)++post)):=by
 cases t with
 | k kd=>
   simp only [WW,F2,PP.toV,DV.toV,DH];cases m with
   | nil=>
     have:=Qe 0 (0::p_) kd x pre post;have e:UM 0 (0::p_) kd=[]:=by unfold UM MC;grind
     grind [I1]
   | cons a m=>
     grind [Qe,I1]
 | s E=>grind [WW,F2,PP.toV,DV.toV,Qf,DH]
 | f g=>simp only [WW,F2,PP.toV,DV.toV,DC.toC,PC.toC]
theorem Qg: ∀ (ow:List (List Nat)) (p:Nat) (p_:Ad) (ts:List VT) (x:RT T ts) (pre post:List Ad),AQ (KI ow p p_ ts x)=(Bs ow pre.length ts x).map (PP.toV (pre++(UN T ow p p_ ts++post)))
 | [],_,_,[],_,_,_=>by simp [KI,Bs,AQ]
 | _::_,_,_,[],_,_,_=>by simp [KI,Bs,AQ]
 | [],p,p_,[t],x,pre,post=>by have:=Mb [] (p::p_) t x pre post;grind [I1,KI,Bs,AQ,UN]
 | m::ms,p,p_,[t],x,pre,post=>by have:=Mb m (p::p_) t x pre post;grind [UN,KI,Bs,AQ]
 | [],p,p_,t::u::ts,x,pre,post=>by
   have h1:=Mb [] (p::p_) t x.1 pre post;have e:I1 [] 0 (p::p_) (DH T t)=[]:=by cases DH T t<;>rfl
   rw [e]at h1;have h2:=Qg [] (p+1) p_ (u::ts) x.2 pre post;simp only [KI,Bs,AQ,map_cons,h1,h2,UN]
 | m::ms,p,p_,t::u::ts,x,pre,post=>by have h1:=Mb m (p::p_) t x.1 pre (UN T ms (p+1) p_ (u::ts)++post);have h2:=Qg ms (p+1) p_ (u::ts) x.2 (pre++I1 m 0 (p::p_) (DH T t)) post;rw [length_append,(JI m 0 (p::p_) (DH T t) (Le t x.1)).2]at h2;grind [KI,Bs,AQ,UN]
theorem rF (ow:List (List Nat)) (p_:Ad) (ts:List VT) (x:RT T ts):(dvR ow p_ ts x).toV =K9 (UN T ow 0 p_ ts) (Bs ow 0 ts x):=by
 have h:=Qg ow 0 p_ ts x [] [];simp only [List.length_nil,nil_append,append_nil]at h;unfold dvR K9;split
 ·rename_i v hv;rw [hv]at h;simp only [AQ]at h;split
  ·grind
  ·rename_i n_
   match hp:Bs ow 0 ts x,h,n_ with
   | [p],_,n_=>grind
   | [],h,_=>simp at h
   | _::_::_,h,_=>simp at h
 ·rename_i n_;split
  ·rename_i p hp;rw [hp]at h
   match hv:KI ow 0 p_ ts x,h,n_ with
   | [v],_,n_=>grind
   | [],h,_=>simp [AQ]at h
   | _::_::_,h,_=>simp [AQ]at h
  ·simp only [DV.toV,h]
theorem mc (m:Nat) (id:Ad) (k:Kd) (x:L5 T.den k):(oG m id k x).ok :=by unfold oG;grind [DC.ok]
theorem ak: ∀ (ms:List Nat) (i:Nat) (p_:Ad) (ks:List Kd) (x:DK T.den ks),Bx (Qc ms i p_ ks x)
 | [],_,_,[],_=>by simp [Qc,Bx]
 | _::_,_,_,[],_=>by simp [Qc,Bx]
 | [],i,p_,k::ks,x=>by simp only [Qc,Bx,DC.ok,true_and];exact ak [] i p_ ks x.2
 | m::ms,i,p_,k::ks,x=>by simp only [Qc,Bx];exact⟨mc _ _ _ _,ak ms (i+1) p_ ks x.2⟩
theorem SH {H:Aq T} {n:Nat} (m:List Nat) (p_:Ad) (t:VT) (x:Dj T t):(WW m p_ t x).ok H n:=by cases t<;>grind [WW,DV.ok,mc,ak,DC.ok]
theorem al {H:Aq T} {n:Nat}: ∀ (ow:List (List Nat)) (p:Nat) (p_:Ad) (ts:List VT) (x:RT T ts),B7 H n (KI ow p p_ ts x)
 | [],_,_,[],_=>by simp [KI,B7]
 | _::_,_,_,[],_=>by simp [KI,B7]
 | [],p,p_,[t],x=>by simp only [KI,B7,and_true];exact SH _ _ _ _
 | m::ms,p,p_,[t],x=>by simp only [KI,B7,and_true];exact SH _ _ _ _
 | [],p,p_,t::u::ts,x=>by simp only [KI,B7];exact⟨SH _ _ _ _,al [] (p+1) p_ (u::ts) x.2⟩
 | m::ms,p,p_,t::u::ts,x=>by simp only [KI,B7];exact⟨SH _ _ _ _,al ms (p+1) p_ (u::ts) x.2⟩
theorem zJ {H:Aq T} {n:Nat} (ow:List (List Nat)) (p_:Ad) (ts:List VT) (x:RT T ts):(dvR ow p_ ts x).ok H n:=by
 have:=al (H:=H) (n:=n) ow 0 p_ ts x;unfold dvR;split
 all_goals simp_all [B7,DV.ok]
def AcB (m:Nat) (id:Ad) (k:Kd):Bool:=match MC m k with
 | 0=>true
 | _=>match m with
   | 2=>true
   | _=> !DF id&& !Cf id
def wi:List Nat->Nat->Ad->List Kd->Bool
 | m::ms,i,p_,k::ks=>AcB m (i::p_) k&&wi ms (i+1) p_ ks
 | _,_,_,_=>true
def okR (T:AX):List (List Nat)->Nat->Ad->List VT->Bool
 | m::ms,p,p_,t::ts=>wi m 0 (p::p_) (DH T t)&&okR T ms (p+1) p_ ts
 | _,_,_,_=>true
theorem HY: ∀ {a b:List OE} {i j:List Ad},HL a i=true->HL b j=true->HL (a++b) (i++j)=true
 | [],_,[],_,_,h=>h
 | [],_,_::_,_,h,_=>by simp [HL]at h
 | _::_,_,[],_,h,_=>by simp [HL]at h
 | o::a,b,x::i,j,h,k=>by simp_all [HL,HY]
theorem oI {m:Nat} {id:Ad} {k:Kd} (x:L5 T.den k) (h:AcB m id k=true):HL (Hh m k x) (UM m id k)=true:=by
 cases k with
 | w_ E=>
   match m with
   | 0=>rfl
   | 1=>
     have h:(!DF id&& !Cf id)=true:=h;simp only [and_eq_true,Bool.not_eq_true']at h;show ((DF id==false&& !Cf id)&&true)=true;grind
   | 2=>rfl
   | _+3=>rfl
 | _=>rfl
theorem Qh: ∀ {ms:List Nat} {i:Nat} {p_:Ad} {ks:List Kd} (x:DK T.den ks),wi ms i p_ ks=true->HL (BM ms ks x) (I1 ms i p_ ks)=true
 | [],_,_,_,_,_=>rfl
 | _::_,_,_,[],_,_=>rfl
 | m::ms,i,p_,k::ks,x,h=>by simp only [wi,and_eq_true]at h;exact HY (oI x.1 h.1) (Qh x.2 h.2)
theorem eA: ∀ {ow:List (List Nat)} {p:Nat} {p_:Ad} {ts:List VT} (x:RT T ts),okR T ow p p_ ts=true->HL (CG ow ts x) (UN T ow p p_ ts)=true
 | [],_,_,[],_,_=>rfl
 | [],_,_,[_],_,_=>rfl
 | [],_,_,_::_::_,_,_=>rfl
 | _::_,_,_,[],_,_=>rfl
 | m::ms,p,p_,[t],x,h=>by
   simp only [okR,and_eq_true]at h;have e:UN T (m::ms) p p_ [t]=I1 m 0 (p::p_) (DH T t):=by cases ms<;>simp [UN]
   rw [e];exact Qh (Le t x) h.1
 | m::ms,p,p_,t::u::ts,x,h=>by rw [okR,and_eq_true]at h;rw [UN];exact HY (Qh (Le t x.1) h.1) (eA x.2 h.2)
def Io (ns:List Ad) (i:Ad):Bool:=match ns with
 | []=>false
 | n::r=>match AP i n with
   | true=>true
   | false=>match abK n i with
     | true=>true
     | false=>Io r i
where abK (n i:Ad):Bool:=match i with
 | m::_::j=>Nat.beq m 1000007&&AP j n
 | _=>false
theorem me: ∀ (ns:List Ad) (i:Ad),Io ns i=IK ns i
 | [],_=>rfl
 | n::r,i=>by
   have e:Io.abK n i=C4 n i:=by unfold Io.abK C4;split<;>simp [B1]
   simp only [Io,IK,List.any_cons,e,B1];have:=me r i;unfold IK at this;rw [this];cases i==n<;>cases C4 n i<;>rfl
def jg {P:Program} {I:World->Prop} (Γ:List (CE T P I)) (st:Ac T) (f:FuncId) (xs:List Operand) (d:Nat):M (Ac T):=
 match FY st [] xs with
 | some vs=>match JC st vs,Om vs with
   | some ws,[]=>match Nr f ws Γ with
     | some ⟨e,x⟩=>match e.ow with
       | []=> .no
       | m::ms=>A_ (Jz (UN T (m::ms) 0 (d::st.pre) e.rs)&&okR T (m::ms) 0 (d::st.pre) e.rs) (.opt (e.run x) fun r=>
          .ret ((AY (mb (m::ms) 0 (d::st.pre) e.rs r) (st.s_ (Io (UN T (m::ms) 0 (d::st.pre) e.rs)))).put (some d) (dvR (m::ms) (d::st.pre) e.rs r)))
     | none=> .no
   | _,_=> .no
 | none=> .no
theorem oJ {H:Aq T} {P:Program} {I:World->Prop} {Γ:List (CE T P I)} {st:Ac T} (hw:Ay H st) {f:FuncId} {xs:List Operand} {o:Oper} (hk:BC o.op= .call f xs) {d:Nat} (hd:o.dst=some d):
 Yl (jg Γ st f xs d) (fun an=>(∃ H',Nx H st H' an)/\an.pre=st.pre/\ ∀ K:St->Prop,K an.toSt->El P I o st.toSt K):=by
 unfold jg;split
 ·rename_i vs hvs;split
  ·rename_i ws hws als;split
   ·rename_i e x hx;obtain⟨he,hx⟩:=Ee hx;split
    ·exact Yl.no
    ·rename_i m ms how;refine Yl.A_ fun hg=>Yl.opt fun r hr=>Yl.ret ?_;simp only [and_eq_true]at hg;obtain⟨g1,g2⟩:=hg;have hnd:=Fw g1;obtain⟨a1,a2,a3⟩:=Cy (key:=[]) hw (fun _ hl=>by cases hl) rfl hvs;change (st.toSt.args true xs).1 at a2;change (st.toSt.args true xs).2=AQ vs at a3;have hc:=e.okx (by grind) x r hr;rw [he,how]at hc;have hs:(AQ vs).map (Bc st.toSt)=Ep e.ps x:=by rw [Eq hws,hx]
     have hp:Io (UN T (m::ms) 0 (d::st.pre) e.rs)=IK (UN T (m::ms) 0 (d::st.pre) e.rs):=by grind [me]
     rw [hp];generalize hns:UN T (m::ms) 0 (d::st.pre) e.rs=ns at *;obtain⟨⟨H1,n1⟩,k1,k2,k3,k4,k5⟩:=Ac.aaB hw (IK ns);obtain⟨x1,x2,x3⟩:=ez (m::ms) 0 (d::st.pre) e.rs r;rw [hns]at x1 x2;obtain⟨H2,n2⟩:=GC (l:=mb (m::ms) 0 (d::st.pre) e.rs r) n1 x3 (by grind) (fun p hp' e' X_ q=>by
      have h1:=k5 e' X_;have h2:p.1∈ns:=by grind
      grind [IK])
     obtain⟨s1,s2,s3,s4,s5,_⟩:=Dp (mb (m::ms) 0 (d::st.pre) e.rs r) (st.s_ (IK ns));obtain⟨H3,n3⟩:=Ac.r_ n2 (some d) (zJ (m::ms) (d::st.pre) e.rs r);refine⟨⟨H3,n3⟩,by rw [AH,s3,k4],fun K hK=>?_⟩;have adz:B0 ((st.toSt.a_ (IK ns) (Ce (CG (m::ms) e.rs r) ns++(st.toSt.so.filter fun e=> !(IK ns e.id)).map (Ar.a_ (IK ns)))).put (some d) (K9 ns (Bs (m::ms) 0 e.rs r)))
      ((AY (mb (m::ms) 0 (d::st.pre) e.rs r) (st.s_ (IK ns))).put (some d) (dvR (m::ms) (d::st.pre) e.rs r)).toSt :=by
      rw [Ac.d_,rF,hns];refine B0.put ?_ _ _;have t1:(AY (mb (m::ms) 0 (d::st.pre) e.rs r) (st.s_ (IK ns))).toSt.tm =(st.s_ (IK ns)).toSt.tm :=by grind [Ac.toSt]
      have t2:(AY (mb (m::ms) 0 (d::st.pre) e.rs r) (st.s_ (IK ns))).toSt.gh =(st.s_ (IK ns)).toSt.gh :=by simp only [Ac.toSt,s2]
      have t3:(AY (mb (m::ms) 0 (d::st.pre) e.rs r) (st.s_ (IK ns))).toSt.so =Ce (CG (m::ms) e.rs r) ns++(st.toSt.so.filter fun e=> !(IK ns e.id)).map (Ar.a_ (IK ns)):=by grind
      refine⟨by rw [t1];exact k1.get.1,fun i=>by rw [t1];exact k1.get.2 i,fun y hy=>by rw [t3]at hy;exact hy,fun hn=>by rw [t3];exact hn,by rw [t2];exact k2.get,?_⟩;show (AY (mb (m::ms) 0 (d::st.pre) e.rs r) (st.s_ (IK ns))).pre =st.pre;rw [s3,k4]
     intro F a w G Q hI hR;refine Oper.wp_mono (fun _ _ ⟨s,G',hs',hR'⟩=>⟨_,G',hK,(hs'▸hR').less adz⟩) (El.amt (K:=(· =(st.toSt.a_ (IK ns) (Ce (CG (m::ms) e.rs r) ns++(st.toSt.so.filter fun e=> !(IK ns e.id)).map (Ar.a_ (IK ns)))).put (some d) (K9 ns (Bs (m::ms) 0 e.rs r)))) d hk hd a2 ?_ ?_ ?_ ?_ hnd rfl F a w G Q hI hR)
     ·grind [Hi]
     ·rw [a3,D2,als]
     ·grind
     ·rw [<-hns];exact eA r g2
   ·exact Yl.no
  ·exact Yl.no
 ·exact Yl.no
end Go.PL
set_option linter.all false
namespace Go.PL
open Go Go.RowKit
variable {T:AX}
def UZ (E E':Nat) (l:List (T.den E')):Option (List (T.den E)):=match Nat.decEq E' E with
 | .isTrue h=>some (h▸l)
 | .isFalse _=>none
theorem Hk {E E':Nat} {l:List (T.den E')} {m:List (T.den E)} (h:UZ E E' l=some m): ∃ e:E'=E,m=e▸l:=by
 unfold UZ at h;split at h
 all_goals grind
theorem U0 {den:Nat->Type} {enc: ∀ E,den E->List C}: ∀ (ks:List Kd) (y:DK den ks),(Bd enc ks y).map My=Bd enc ks y
 | [],_=>rfl
 | k::ks,y=>by simp only [Bd,map_cons,U0 ks y.2];cases k<;>rfl
theorem Rz: ∀ (ks:List Kd) (y:DK T.den ks),(Bj T ks y).map My=Bd T.enc ks y
 | [],_=>rfl
 | k::ks,y=>by simp only [Bj,Bd,map_cons,Rz ks y.2];cases k<;>rfl
theorem NA (E:Nat) (n:Int): ∀ (k:Int) (l:List (T.den E)),(Av T E n k l).map My=l.flatMap (T.enc E)
 | _,[]=>rfl
 | k,x::l=>by
   rw [Av,map_append,NA E n (k+1) l,flatMap_cons];congr 1;split
   ·rw [AX.Z_,Rz,T.V_]
   ·rw [<-T.V_,U0]
def pDT (r id i:Ad):Bool:=match AP i r with
 | true=>true
 | false=>Io.abK id i
theorem HZ (n i:Ad):Io.abK n i=C4 n i:=by unfold Io.abK C4;split<;>simp [B1]
theorem zK (r id:Ad):pDT r id=pD r id:=by grind [pDT,pD,B1,HZ]
theorem aaz {id:Ad} {t:Nat} {x:DX T}: ∀ {l:List (DE T)} {e:DE T},(l.map DE.id).Nodup ->e∈P1 id t x l->(e∈l/\e.id ≠ id)\/e=⟨id,t,x⟩
 | [],e,_,h=>by cases h
 | a::r,e,hn,h=>by
   rw [map_cons]at hn;obtain⟨n1,n2⟩:=nodup_cons.1 hn;unfold P1 at h;split at h
   ·rename_i hb;have hb:=AE.1 hb;grind
   ·rename_i hb;rcases mem_cons.1 h with rfl | h
    ·exact .inl ⟨by simp,fun q=>by rw [AE.2 q]at hb;cases hb⟩
    ·rcases aaz n2 h with ⟨h1,h2⟩ | h
     ·exact .inl ⟨by simp [h1],h2⟩
     ·exact .inr h
theorem Yv {H:Aq T} {st:Ac T} (hw:Ay H st) {p:Ad->Bool} {e:Ar} (h:e∈(st.s_ p).toSt.so): ∃ d∈st.toSt.so,p d.id=false/\e=d.a_ p:=by rw [(Ac.aaB hw p).2.2.2.1]at h;grind
theorem H5 {A B:St} (h1:Gz A.tm B.tm) (h2:Gz A.gh B.gh) (h3: ∀ e∈B.so,e∈A.so) (h4:(B.so.map (·.id)).Nodup) (h5:B.pre=A.pre):B0 A B:=⟨h1.get.1,h1.get.2,h3,fun _=>h4,h2.get,h5⟩
theorem DR {H:Aq T} {st:Ac T} (hw:Ay H st):(st.toSt.so.map (·.id)).Nodup :=by
 have e:st.toSt.so.map (·.id)=st.so.map DE.id:=by grind [Ac.toSt,map_congr_left,DE.toE_id]
 rw [e];exact hw.nd
theorem Gb {α:Type} [Inhabited α] {l:List α} {i:Int} {x:α} (h:idx l i=some x):0<=i/\i<(l.length:Int)/\l[i.toNat]? =some x:=by have hi:=N7 h;have:=de h;grind
def Es:(ks:List Kd)->DK T.den ks->Nat->Option ((F:Nat)×List (T.den F))
 | .w_ F::_,y,0=>some ⟨F,y.1⟩
 | _::ks,y,p+1=>Es ks y.2 p
 | _,_,_=>none
theorem Li: ∀ {ks:List Kd} {y:DK T.den ks} {p:Nat} {F:Nat} {l:List (T.den F)},Es ks y p=some ⟨F,l⟩->(Bj T ks y)[p]? =some (.isl F (T.sz F) l.length (l.flatMap (T.enc F)))/\p<ks.length
 | [],_,_,_,_,h=>by simp [Es]at h
 | .w_ F'::ks,y,0,F,l,h=>by simp only [Es,injEq]at h;injection h with h1 h2;subst h1;have h2:=eq_of_heq h2;subst h2;exact⟨rfl,by simp⟩
 | .int k::ks,y,0,F,l,h=>by simp [Es]at h
 | .bool ::ks,y,0,F,l,h=>by simp [Es]at h
 | .str ::ks,y,0,F,l,h=>by simp [Es]at h
 | k::ks,y,p+1,F,l,h=>by
   have h:Es ks y.2 p=some ⟨F,l⟩:=by cases k<;>simpa only [Es] using h
   obtain⟨a,b⟩:=Li h;exact⟨by simpa only [Bj,List.getElem?_cons_succ] using a,by simp;omega⟩
def Et (F:Nat) (l:List (T.den F)):(ks:List Kd)->DK T.den ks->Nat->Option (DK T.den ks)
 | .w_ F'::_,y,0=>match Nat.decEq F F' with
   | .isTrue h=>some (h▸l,y.2)
   | .isFalse _=>none
 | k::ks,y,p+1=>match Et F l ks y.2 p with
   | some z=>some (y.1,z)
   | none=>none
 | _,_,_=>none
theorem JJ {F:Nat} {l:List (T.den F)}: ∀ {ks:List Kd} {y z:DK T.den ks} {p:Nat},Et F l ks y p=some z->Bj T ks z=(Bj T ks y).set p (.isl F (T.sz F) l.length (l.flatMap (T.enc F)))/\p<ks.length
 | [],_,_,_,h=>by simp [Et]at h
 | .w_ F'::ks,y,z,0,h=>by
   simp only [Et]at h;split at h
   ·rename_i e _;subst e;injection h with h;subst h;exact⟨rfl,by simp⟩
   ·cases h
 | .int k::ks,y,z,0,h=>by simp [Et]at h
 | .bool ::ks,y,z,0,h=>by simp [Et]at h
 | .str ::ks,y,z,0,h=>by simp [Et]at h
 | k::ks,y,z,p+1,h=>by
   have h:(match Et F l ks y.2 p with | some z=>some ((y.1,z):L5 T.den k×DK T.den ks) | none=>none)=some z:=by cases k<;>simpa only [Et] using h
   split at h
   ·rename_i z' hz;injection h with h;subst h;obtain⟨a,b⟩:=JJ hz;exact⟨by simp only [Bj,set_cons_succ];rw [a],by simp;omega⟩
   ·cases h
theorem NB {E:Nat} {n:Int} {c:C} {p:Nat} {x':T.den E}: ∀ {l:List (T.den E)} {k:Int} {i:Nat} {x:T.den E},l[i]? =some x->k+i<n->T.Z_ E x'=(T.Z_ E x).set p c->p<T.sz E->(Av T E n k l).set (i*T.sz E+p) c=Av T E n k (l.set i x')
 | [],_,_,_,h,_,_,_=>by simp at h
 | y::l,k,0,x,h,hn,hx,hp=>by simp only [getElem?_cons_zero,injEq]at h;simp_all [Av,Df]
 | y::l,k,i+1,x,h,hn,hx,hp=>by
   have hl:(if k<n then T.Z_ E y else T.enc E y).length =T.sz E:=by grind [Df]
   rw [set_cons_succ,Av,Av,List.set_append_right _ _ (by rw [hl,add_mul,one_mul];omega),hl,show (i+1)*T.sz E+p - T.sz E=i*T.sz E+p by rw [add_mul,one_mul];omega];rw [NB (by simpa using h) (by push_cast at hn;omega) hx hp]
theorem oK (E:Nat) (x:T.den E):Al (T.Z_ E x)=true:=by
 have: ∀ (ks:List Kd) (y:DK T.den ks),Al (Bj T ks y)=true:=by
  intro ks;induction ks with
  | nil=>intro _;rfl
  | cons k ks ih=>
    intro y;simp only [Bj,Al,and_eq_true];exact⟨by cases k<;>rfl,ih y.2⟩
 exact this _ _
def zL (P:Program) (I:World->Prop) (o:Oper) (A B:St):Prop:= ∀ (F:Fr) (a:Act) (w:World) (G:Ax),F.I=I->R F A a w G-> ∃ v G',(∀ w',Ca w w'->(execOp a.eval o).run P w'= .ok (.value v) w')/\R F B (a.put o.dst v) w G'
theorem zL.esc {P:Program} {I:World->Prop} {o:Oper} {A B:St} {K:St->Prop} (h:zL P I o A B) (hK:K B):El P I o A K:=fun F a w G Q hI hR=>by obtain⟨v,G',h1,h2⟩:=h F a w G hI hR;exact Au (h1 w (Ca.refl w)) ⟨_,G',hK,h2⟩
theorem oL {w w':World} {b k:Nat} {v:Value} (h:Ca w w') (hc:w.cell? ⟨b,k,none⟩=some v):w'.cell? ⟨b,k,none⟩=some v:=by rw [G_ (h.block b (block_lt_of_cell hc))];exact hc
def dlx (P:Program) (o:Oper) (st:Ac T):M (Ac T):=match o.op with
 | .load t x=>match o.dst,st.arg [] x,FW P t with
   | some d,some (.c (.rp id N i off)),some (false,1)=>match G9 st id with
     | some ⟨E,(nn,l,none)⟩=>A_ (DF id&&(Nat.beq N (T.sz E)&&(!(Cf (d::st.pre))&& !(DF (d::st.pre))))) (.opt (idx l i) fun x=> .opt (DG (i<nn)) fun _=>match Es (T.ks E) (T.un E x) off with
       | some ⟨F,y⟩=> .ret ((AY [(d::st.pre, .row F y)] ((st.s_ (pDT (d::st.pre) id)).aaf id (.deep E nn l (some (i,off))))).put (some d) (.c (.c (.l_ (d::st.pre)))))
       | none=> .no)
     | _=> .no
   | _,_,_=> .no
 | _=> .no
theorem rG {H:Aq T} {P:Program} {I:World->Prop} {st:Ac T} (hw:Ay H st) {o:Oper}:Yl (dlx P o st) (fun an=>(∃ H',Nx H st H' an)/\an.pre=st.pre/\zL P I o st.toSt an.toSt):=by
 unfold dlx;split
 ·rename_i t x hop;split
  ·rename_i d id N i off hd hx ht;split
   ·rename_i E nn l hdr;refine Yl.A_ fun hg=>Yl.opt fun xx hxx=>Yl.opt fun u hu=>?_;simp only [and_eq_true,beq_eq,Bool.not_eq_true']at hg;obtain⟨g1,g2,g3,g4⟩:=hg;subst g2;split
    ·rename_i F y hy;refine Yl.ret ?_;have hin:=BK hu;obtain⟨i0,i1,hxi⟩:=Gb hxx;obtain⟨a1,a2,a3⟩:=E3 hw hx;obtain⟨hmk,hlr,e,he1,he2,he3⟩:=Br hdr;obtain⟨hc,aaC⟩:=Li hy;have hE:e.toE=⟨id,some (E,T.sz E,l.length),Av T E nn 0 l,true⟩:=by unfold DE.toE;rw [he3,he2];rfl
     obtain⟨⟨H1,n1⟩,k1,k2,k3,k4,k5⟩:=Ac.aaB hw (pDT (d::st.pre) id);have hp:pDT (d::st.pre) id=pD (d::st.pre) id:=zK _ _;rw [hp]at n1 k1 k2 k3 k4 k5 ⊢;have aeN:d::st.pre ≠ id:=fun q=>by rw [q,g1]at g4;cases g4
     obtain⟨H2,n2⟩:=Ac.aab n1.ok id (x:= .deep E nn l (some (i,off))) trivial;obtain⟨H3,n3⟩:=GC (l:=[(d::st.pre,DX.row F y)]) (n1.trans n2) (fun p hp'=>by rcases mem_singleton.1 hp' with rfl;trivial) (by simp) (fun p hp' e' X_ q=>by
      rcases mem_singleton.1 hp' with rfl;have ag1:e'.id∈((st.s_ (pD (d::st.pre) id)).so.map DE.id):=by rw [<-Uy id (st.s_ (pD (d::st.pre) id)).nx (.deep E nn l (some (i,off)))];exact mem_map.2 ⟨e',X_,rfl⟩
      grind [pD])
     obtain⟨s1,s2,s3,s4,s5,_⟩:=Dp [(d::st.pre,DX.row F y)] ((st.s_ (pD (d::st.pre) id)).aaf id (.deep E nn l (some (i,off))));obtain⟨H4,n4⟩:=Ac.r_ n3 (some d) (v:= .c (.c (.l_ (d::st.pre)))) (by simp only [DV.ok,DC.ok]);refine⟨⟨H4,n4⟩,by rw [AH,s3];exact k4,fun Fr a w G hI hR=>?_⟩;have hL:st.toSt.u_ id=some e.toE:=hR.v_ (mem_map.2 ⟨e,he1,rfl⟩) (by rw [hE]) g1;have hk:e.toE.cs[i.toNat*T.sz E+off]? =some (.isl F (T.sz F) y.length (y.flatMap (T.enc F))):=by rw [hE];show (Av T E nn 0 l)[_]? =_;rw [Hc hxi aaC,if_pos (by omega)];exact hc
     have H_:=hR.arg rfl a2;rw [a3]at H_;simp only [DV.toV,DC.toC,Aa,Ab]at H_;obtain⟨b,hb1,hv⟩:=H_;obtain⟨G',q1,b2,v,q2,q3,q4,q5⟩:=hR.extract hL hk (r:=d::st.pre) g3 g4;rw [hb1]at q2;injection q2 with q2;subst q2;obtain⟨dd,ti,hu',Y_,_⟩:=Bw ht;refine⟨v,G',fun w' hS=>?_,?_⟩
     ·simp [execOp,hop,hv,Cv hu' Y_ (oL hS q3)]
     ·rw [hd];have ag2:=R.put (d:=some d) q1 (show Aa w G' (V.c (C.l_ (d::st.pre))) v by simp only [Aa,Ab];exact⟨q4,q5⟩);refine ag2.less ?_;rw [Ac.d_];refine B0.put (H5 ?_ ?_ ?_ ?_ ?_) _ _
      ·have:(AY [(d::st.pre,DX.row F y)] ((st.s_ (pD (d::st.pre) id)).aaf id (.deep E nn l (some (i,off))))).toSt.tm =(st.s_ (pD (d::st.pre) id)).toSt.tm :=by simp only [Ac.toSt,s1,s4];rfl
       rw [this];exact k1
      ·have:(AY [(d::st.pre,DX.row F y)] ((st.s_ (pD (d::st.pre) id)).aaf id (.deep E nn l (some (i,off))))).toSt.gh =(st.s_ (pD (d::st.pre) id)).toSt.gh :=by simp only [Ac.toSt,s2];rfl
       rw [this];exact k2
      ·intro z hz;rw [s5]at hz;simp only [map_cons,map_nil,List.singleton_append,mem_cons]at hz;simp only [St.a_,mem_cons,mem_map,mem_filter];rcases hz with rfl | hz
       ·exact .inl rfl
       ·right;obtain⟨e3,h1,rfl⟩:=mem_map.1 hz;rcases aaz n1.ok.nd h1 with ⟨h1,h2⟩ | h1
        ·obtain⟨d3,h3,h4,h5⟩:=Yv hw (mem_map.2 ⟨e3,h1,rfl⟩);have aoJ:d3.id ≠ id:=by grind [Ar.j_,DE.toE_id]
         refine⟨d3.a_ (pD (d::st.pre) id),⟨d3,(by grind [pD]),rfl⟩,?_⟩;grind [C2,Ar.j_]
        ·subst h1;refine⟨e.toE.a_ (pD (d::st.pre) id),⟨e.toE,⟨mem_map.2 ⟨e,he1,rfl⟩,by grind⟩,rfl⟩,?_⟩;rw [C3 (by rw [Ar.j_,hE]),Ar.j_,Ar.acD,hE];rfl
      ·exact DR n3.ok
      ·rw [show (AY [(d::st.pre,DX.row F y)] ((st.s_ (pD (d::st.pre) id)).aaf id (.deep E nn l (some (i,off))))).toSt.pre =st.pre from by show (AY _ _).pre =_;rw [s3];exact k4];rfl
    ·exact Yl.no
   ·exact Yl.no
  ·exact Yl.no
 ·exact Yl.no
end Go.PL
set_option linter.all false
namespace Go.PL
open Go Go.RowKit
variable {T:AX}
def Ac.aaQ (st:Ac T) (p:Ad->Bool):Ac T:=let s:=st.abz (DV.c_ p) (fun _=> .u) (fun _=>false) id;{s with so:=s.so.filter fun e=> !(p e.id)&& !(e.x.c_ p)}
theorem mf: ∀ (l:List (DE T)) (n:Nat),Nl (fun _=>false) id n l=l
 | [],_=>rfl
 | e::r,n=>by simp only [Nl,mf r]
theorem U1 {p:Ad->Bool} (m n:Nat) (tm:Tm T): ∀ i,(Aw m (MA (DV.c_ p) (fun _=> .u) n tm)).getD i .undef = .undef \/((Aw m (MA (DV.c_ p) (fun _=> .u) n tm)).getD i .undef =(Aw m tm).getD i .undef /\((Aw m tm).getD i .undef).c_ p=false):=fun i=>by
 unfold Aw;simp only [List.getD_eq_getElem?_getD,List.getElem?_map];by_cases hi:i<m
 ·rw [List.getElem?_range hi];simp only [Option.map_some,getD_some,JB (p:=DV.c_ p) (f:=fun _=>DV.u) (by simp [DV.c_])];split
  ·grind [DV.toV]
  ·rename_i h;exact .inr ⟨rfl,DV.acB p _ h⟩
 grind
theorem WX (a b:List V) (i:Nat):(a++b).getD i .undef =if i<a.length then a.getD i .undef else b.getD (i - a.length) .undef :=by grind
theorem eC {p:Ad->Bool}: ∀ (l:List (Nat×Tm T)) (n:Nat),((Nk (DV.c_ p) (fun _=> .u) n l).flatMap fun f=>Aw f.1 f.2).length =(l.flatMap fun f=>Aw f.1 f.2).length /\ ∀ i,((Nk (DV.c_ p) (fun _=> .u) n l).flatMap fun f=>Aw f.1 f.2).getD i .undef = .undef \/
 (((Nk (DV.c_ p) (fun _=> .u) n l).flatMap fun f=>Aw f.1 f.2).getD i .undef =(l.flatMap fun f=>Aw f.1 f.2).getD i .undef /\((l.flatMap fun f=>Aw f.1 f.2).getD i .undef).c_ p=false)
 | [],_=>⟨rfl,fun i=> .inl rfl⟩
 | (m,tm)::r,n=>by
   obtain⟨h1,h2⟩:=eC r (n+tm.length);have hl:(Aw m (MA (DV.c_ p) (fun _=> .u) n tm)).length =(Aw m tm).length :=by rw [A7,A7]
   simp only [Nk,flatMap_cons];refine⟨by rw [length_append,length_append,h1,hl],fun i=>?_⟩;grind [WX,U1]
theorem JK {H:Aq T} {st:Ac T} (h:Ay H st) (p:Ad->Bool):(∃ H',Nx H st H' (st.aaQ p))/\(st.aaQ p).pre =st.pre/\(∀ e∈(st.aaQ p).so,e∈st.so/\p e.id=false/\e.x.c_ p=false):=by obtain⟨H',hN⟩:=Ac.abI (p:=DV.c_ p) (f:=fun _=> .u) (q:=fun _=>false) (g:=id) h (fun _=>by simp only [DV.ok]) (fun {x} hx=>hx);refine⟨⟨H',hN.ext,hN.le,Dg hN.ok _⟩,rfl,fun e he=>?_⟩;obtain⟨h1,h2⟩:=mem_filter.1 he;have h1:e∈Nl (fun _=>false) id (st.nx+st.tm.length+J8 st.gh) st.so:=h1;simp_all [mf]
theorem RA {H H2:Aq T} {st:Ac T} (hw:Ay H st) {p:Ad->Bool} {id:Ad} {ns:List Ad} {x:DX T} (hid: ∀ n∈ns,p n=true) (hok:Ay H2 ((st.aaQ p).aaf id x)) {new:Ar} (J_:WV (id,x)=new):Yj p id ns new st.toSt ((st.aaQ p).aaf id x).toSt :=by
 refine⟨?_,fun i=>?_,?_,fun i=>?_,fun z hz=>?_,DR hok,rfl⟩
 ·show (Aw _ _).length =(Aw _ _).length;rw [A7,A7];rfl
 ·exact U1 st.m st.nx st.tm i
 ·exact(eC st.gh _).1
 ·exact(eC st.gh _).2 i
 ·obtain⟨e,he,rfl⟩:=mem_map.1 hz;obtain⟨⟨H1,n1⟩,_,k3⟩:=JK hw p;rcases aaz n1.ok.nd he with ⟨h1,h2⟩ | h1
  ·right;obtain⟨q1,q2,q3⟩:=k3 e h1;refine⟨mem_map.2 ⟨e,q1,rfl⟩,by rw [DE.toE_id];exact h2,fun hq=>?_,?_⟩
   ·grind [DE.toE_id]
   ·unfold DE.toE;cases hx:e.x with
    | box cs=>
      grind [DX.c_,Ei]
    | row E l=>grind
    | deep E n l h=>grind
  grind [ma]
def Qi (rs:List Ad) (id i:Ad):Bool:=match rs with
 | []=>Io.abK id i
 | r::rs=>match AP i r with
   | true=>true
   | false=>Qi rs id i
theorem am: ∀ {rs:List Ad} {id r:Ad},r∈rs-> ∀ i,pD r id i=true->Qi rs id i=true
 | [],_,_,h,_,_=>by cases h
 | x::rs,id,r,h,i,hi=>by
   unfold Qi;split
   ·rfl
   ·rename_i hb;rcases mem_cons.1 h with rfl | h
    ·simp only [pD,Bool.or_eq_true,beq_iff_eq]at hi;rcases hi with hi | hi
     ·grind [AE]
     ·have: ∀ rs:List Ad,Qi rs id i=true:=by intro rs;induction rs<;>grind [Qi,HZ]
      grind
    ·exact am h i hi
theorem SI: ∀ {rs:List Ad} {id r:Ad},r∈rs->Qi rs id r=true
 | x::rs,id,r,h=>by
   unfold Qi;split
   ·rfl
   ·rename_i hb;rcases mem_cons.1 h with rfl | h
    ·rw [AE.2 rfl]at hb;cases hb
    ·exact SI h
def zM (h:Option (Int×Nat)) (i:Int):Option Unit:=match h with
 | none=>some ()
 | some (j,_)=>DG (i=j)
def dsa (P:Program) (o:Oper) (st:Ac T):M (Ac T):=match o.op with
 | .store t x y=>match o.dst,st.arg [] x,st.arg [] y,FW P t with
   | none,some (.c (.rp id N i off)),some (.c (.c (.l_ r))),some (false,1)=>match G9 st id,CI st r with
     | some ⟨E,(nn,l,h)⟩,some ⟨F,y⟩=>A_ (DF id&&(Nat.beq N (T.sz E)&&(match h with | none=>true | some (_,o)=>Nat.beq o off))) (.opt (idx l i) fun x=> .opt (DG (i<nn)) fun _=> .opt (zM h i) fun _=>
      match Et F y (T.ks E) (T.un E x) off with
      | some z=> .ret ((st.aaQ (Qi [r] id)).aaf id (.deep E nn (l.set i.toNat (T.bd E z)) none))
      | none=> .no)
     | _,_=> .no
   | _,_,_,_=> .no
 | _=> .no
theorem zN {H:Aq T} {P:Program} {I:World->Prop} {st:Ac T} (hw:Ay H st) {o:Oper}:Yl (dsa P o st) (fun an=>(∃ H',Nx H st H' an)/\an.pre=st.pre/\ ∀ K:St->Prop,K an.toSt->El P I o st.toSt K):=by
 unfold dsa;split
 ·rename_i t x y hop;split
  ·rename_i id N i off r hd hx hy ht;split
   ·rename_i E nn l hh F yy hdr m_;refine Yl.A_ fun hg=>Yl.opt fun xx hxx=>Yl.opt fun u hu=>Yl.opt fun u2 hu2=>?_;simp only [and_eq_true,beq_eq]at hg;obtain⟨g1,g2,g3⟩:=hg;subst g2;split
    ·rename_i z hz;have hin:=BK hu;obtain⟨i0,i1,hxi⟩:=Gb hxx;obtain⟨a1,a2,a3⟩:=E3 hw hx;obtain⟨b1,b2,b3⟩:=E3 hw hy;obtain⟨hmk,hlr,e,he1,he2,he3⟩:=Br hdr;obtain⟨r1,_,er,r2,r3,r4⟩:=Bg m_;obtain⟨hz1,aaC⟩:=JJ hz;have hE:e.toE=⟨id,some (E,T.sz E,l.length),A2 T E nn l hh,true⟩:=by grind [DE.toE]
     have aeS:T.Z_ E (T.bd E z)=(T.Z_ E xx).set off (.isl F (T.sz F) yy.length (yy.flatMap (T.enc F))):=by rw [AX.Z_,T.ab7,hz1];rfl
     have ac8:=NB (n:=nn) (k:=0) (x':=T.bd E z) (c:= .isl F (T.sz F) yy.length (yy.flatMap (T.enc F))) (p:=off) hxi (by omega) aeS aaC;have T_:(A2 T E nn l hh).set (i.toNat*T.sz E+off) (.isl F (T.sz F) yy.length (yy.flatMap (T.enc F)))=Av T E nn 0 (l.set i.toNat (T.bd E z)):=by
      rw [<-ac8];cases hh with
      | none=>rfl
      | some jo=>
        obtain⟨j,o2⟩:=jo;have g3:Nat.beq o2 off=true:=g3;have g3:=eq_of_beq_eq_true g3;have hho:i=j:=BK hu2;grind [A2,List.set_set]
     obtain⟨⟨H1,n1⟩,k2,k3⟩:=JK hw (Qi [r] id);obtain⟨H2,n2⟩:=Ac.aab n1.ok id (x:= .deep E nn (l.set i.toNat (T.bd E z)) none) trivial;refine Yl.ret ⟨⟨H2,n1.trans n2⟩,k2,fun K hK Fr a w G Q hI hR=>?_⟩;have hL:st.toSt.u_ id=some e.toE:=hR.v_ (mem_map.2 ⟨e,he1,rfl⟩) (by rw [hE]) g1;have H_:=hR.arg rfl a2;rw [a3]at H_;simp only [DV.toV,DC.toC,Aa,Ab]at H_;obtain⟨b,hb1,hv⟩:=H_;have hyv:=hR.arg rfl b2;rw [b3]at hyv;simp only [DV.toV,DC.toC,Aa,Ab]at hyv;have hcl:(a.eval y).cells.toList =[a.eval y]:=by have:=hyv.2;cases hq:a.eval y<;>rw [hq]at this<;>first | rfl | cases this
     have hc:Ae w G [C.any] (a.eval y).cells.toList :=by simp_all [Ae,Ab]
     have hlen:e.toE.cs.length=l.length*T.sz E:=by grind [DL]
     have alM:off<T.sz E:=aaC;have hk:i.toNat*T.sz E+off<e.toE.cs.length:=by rw [hlen];have:(i.toNat+1)*T.sz E<=l.length*T.sz E:=mul_le_mul_right _ (by omega);grind
     obtain⟨cur,T',c1,c2,c3⟩:=hR.aa6 hL hb1 (off:=i.toNat*T.sz E+off) hc (by simp;omega) rfl rfl;have hs:=Db (P:=P) ht c1 (by grind) c2 (Ae.one hc);have aah:(w.setRow b (cur.toList.take (i.toNat*T.sz E+off)++(a.eval y).cells.toList ++cur.toList.drop (i.toNat*T.sz E+off+(a.eval y).cells.toList.length)).toArray).cell? ⟨b,i.toNat*T.sz E+off,none⟩=some (a.eval y):=by
      have:=setRow_heap w b cur (cur.toList.take (i.toNat*T.sz E+off)++(a.eval y).cells.toList ++cur.toList.drop (i.toNat*T.sz E+off+(a.eval y).cells.toList.length)).toArray T' (0,0) c1;simp only [World.cell?,this];have hkl:(cur.toList.take (i.toNat*T.sz E+off)).length =i.toNat*T.sz E+off:=by grind
      simp_all
     generalize w.setRow b _=w1 at hs c3 aah;have h_:(execOp a.eval o).run P w= .ok .skip w1:=by simp_all [execOp]
     have hr1:er.toE=⟨r,some (F,T.sz F,yy.length),yy.flatMap (T.enc F),true⟩:=by rw [DE.toE_row r4,r3]
     have hrd:DF r=false:=DP r1;have aeN:r ≠ id:=(by grind);have adR: ∀ d∈st.toSt.so,d.id ≠ id->d∈(st.toSt.ab8 id e.toE.row (e.toE.cs.take (i.toNat*T.sz E+off)++[C.any]++e.toE.cs.drop (i.toNat*T.sz E+off+[C.any].length))).so :=fun d Y_ n_=>mem_map.2 ⟨d,Y_,C2 n_⟩;have hL2:(st.toSt.ab8 id e.toE.row (e.toE.cs.take (i.toNat*T.sz E+off)++[C.any]++e.toE.cs.drop (i.toNat*T.sz E+off+[C.any].length))).u_ id=some ⟨id,e.toE.row,e.toE.cs.take (i.toNat*T.sz E+off)++[C.any]++e.toE.cs.drop (i.toNat*T.sz E+off+[C.any].length),true⟩:=by refine c3.v_ (mem_map.2 ⟨e.toE,mem_map.2 ⟨e,he1,rfl⟩,?_⟩) rfl g1;grind [C3]
     have hLr:(st.toSt.ab8 id e.toE.row (e.toE.cs.take (i.toNat*T.sz E+off)++[C.any]++e.toE.cs.drop (i.toNat*T.sz E+off+[C.any].length))).look r=some er.toE:=
      c3.abt (adR _ (mem_map.2 ⟨er,r2,rfl⟩) (by grind)) (by grind) hrd (by grind)
     have hsl:(e.toE.cs.take (i.toNat*T.sz E+off)++[C.any]++e.toE.cs.drop (i.toNat*T.sz E+off+[C.any].length)).length =e.toE.cs.length:=by simp;omega
     obtain⟨G',q⟩:=c3.adk (p:=Qi [r] id) [⟨i.toNat*T.sz E+off,r,F,T.sz F,yy.length,yy.flatMap (T.enc F)⟩] hL2 hb1 (fun ar har=>by
      rcases mem_singleton.1 har with rfl;exact⟨by rw [hLr,hr1];rfl,by grind,am (by simp),_,aah,hyv.1⟩) (by simp) ((st.aaQ (Qi [r] id)).aaf id (.deep E nn (l.set i.toNat (T.bd E z)) none)).toSt (by
      have J_:WV (id,(DX.deep E nn (l.set i.toNat (T.bd E z)) none:DX T))=⟨id,e.toE.row,FZ (e.toE.cs.take (i.toNat*T.sz E+off)++[C.any]++e.toE.cs.drop (i.toNat*T.sz E+off+[C.any].length)) [⟨i.toNat*T.sz E+off,r,F,T.sz F,yy.length,yy.flatMap (T.enc F)⟩],true⟩:=by
       show (⟨id,some (E,T.sz E,(l.set i.toNat (T.bd E z)).length),Av T E nn 0 (l.set i.toNat (T.bd E z)),true⟩:Ar)=_;have htl:(e.toE.cs.take (i.toNat*T.sz E+off)).length =i.toNat*T.sz E+off:=by grind
       simp only [FZ,List.foldl_cons,List.foldl_nil,hE,length_set];congr 1;rw [<-T_];apply List.ext_getElem?;intro j;have an0:((A2 T E nn l hh).take (i.toNat*T.sz E+off)).length =i.toNat*T.sz E+off:=by grind
       have hkk:i.toNat*T.sz E+off<(A2 T E nn l hh).length :=by grind
       simp only [List.getElem?_set];by_cases hj:i.toNat*T.sz E+off=j
       ·grind
       ·rw [if_neg hj,if_neg hj,append_assoc];by_cases hjk:j<i.toNat*T.sz E+off
        ·grind
        ·rw [getElem?_append_right (by omega),an0,getElem?_append_right (by simp;omega),List.getElem?_drop];grind
      have hB:=RA (ns:=[r]) hw (p:=Qi [r] id) (fun n hn=>by rcases mem_singleton.1 hn with rfl;exact SI (by simp)) n2.ok J_;exact⟨hB.len,hB.tm,hB.ag9,hB.gh,fun x hx=>(hB.so x hx).imp (fun q=>q) (by grind),hB.nd,hB.pre⟩)
     exact DY h_ (by rw [hd];exact⟨_,G',hK,q⟩)
    ·exact Yl.no
   ·exact Yl.no
  ·exact Yl.no
 ·exact Yl.no
end Go.PL
set_option linter.all false
namespace Go.PL
open Go Go.RowKit
variable {T:AX}
theorem Yw {E:Nat} {n n':Int}: ∀ {l:List (T.den E)} {k:Int},n<=k->n'<=k->Av T E n k l=Av T E n' k l
 | [],_,_,_=>rfl
 | x::l,k,h,h'=>by rw [Av,Av,if_neg (by omega),if_neg (by omega),Yw (n':=n') (l:=l) (k:=k+1) (by omega) (by omega)]
theorem U2 {E:Nat} {x':T.den E} {n:Int}: ∀ {l:List (T.den E)} {k:Int} {i:Nat},i<l.length->k+i=n->(Av T E n k l).take (i*T.sz E)++(T.Z_ E x'++(Av T E n k l).drop (i*T.sz E+T.sz E))=Av T E (n+1) k (l.set i x')
 | [],_,_,h,_=>by simp at h
 | y::l,k,0,h,hk=>by
   have hk:k=n:=by grind
   rw [List.set_cons_zero,Av,Av,if_neg (by omega),if_pos (by omega),Nat.zero_mul,zero_add,List.take_zero,nil_append,List.drop_append_of_le_length (by rw [AG];exact le_refl _),List.drop_eq_nil_of_le (by rw [AG];exact le_refl _),nil_append,Yw (n':=n+1) (by omega) (by omega)]
 | y::l,k,i+1,h,hk=>by
   have hk':k<n:=by grind
   have e:(i+1)*T.sz E=T.sz E+i*T.sz E:=by rw [add_mul,one_mul,Nat.add_comm]
   rw [set_cons_succ,Av,Av,if_pos hk',if_pos (by omega),e, <-U2 (l:=l) (k:=k+1) (by simpa using h) (by push_cast at hk;omega)];rw [List.take_append,List.drop_append,Df,List.take_of_length_le (by rw [Df];omega),List.drop_eq_nil_of_le (by rw [Df];omega),nil_append];grind
def Kw:C->C
 | .l_ _=> .any
 | c=>c
def Oq (st:Ac T):(ks:List Kd)->List (DC T)->Option (DK T.den ks×List Ad)
 | [],[]=>some ((),[])
 | .w_ F::ks,c::cs=>match HV c with
   | some r=>match CI st r with
     | some ⟨F',l⟩=>match UZ F F' l,Oq st ks cs with
       | some l',some (y,rs)=>some ((l',y),r::rs)
       | _,_=>none
     | none=>none
   | none=>none
 | .int k::ks,c::cs=>match Fz false (.int k) c,Oq st ks cs with
   | some x,some (y,rs)=>some ((x,y),rs)
   | _,_=>none
 | .bool ::ks,c::cs=>match Fz false .bool c,Oq st ks cs with
   | some x,some (y,rs)=>some ((x,y),rs)
   | _,_=>none
 | .str ::ks,c::cs=>match Fz false .str c,Oq st ks cs with
   | some x,some (y,rs)=>some ((x,y),rs)
   | _,_=>none
 | _,_=>none
structure wj (st:Ac T) (ks:List Kd) (cs:List (DC T)) (y:DK T.den ks) (rs:List Ad) (b:Nat) (ars:List AR):Prop where
 ids:ars.map (·.r)=rs
 len:cs.length=ks.length
 at_: ∀ x∈ars,st.toSt.look x.r=some x.ent/\b<=x.k/\x.k<b+ks.length/\(Ap cs)[x.k - b]? =some (.l_ x.r)
 ae9: ∀ pre post:List C,pre.length=b->FZ (pre++((Ap cs).map Kw++post)) ars=pre++(Bj T ks y++post)
 pure:Al ((Ap cs).map Kw)=true
 noi:((Ap cs).map Kw).all hZ=true
theorem wj.sc {st:Ac T} {ks:List Kd} {cs:List (DC T)} {y:DK T.den ks} {rs:List Ad} {b:Nat} {ars:List AR} (h:wj st ks cs y rs (b+1) ars) (k:Kd) (x:L5 T.den k) (c:DC T) (hk:L6 k=true) (hc:c.toC=AW T.enc k x):wj st (k::ks) (c::cs) ((x,y):L5 T.den k×DK T.den ks) rs b ars:=by
 have hu:Kw c.toC=T6 T k x:=by rw [hc];cases k<;>first | rfl | cases hk
 have hp:(T6 T k x).pure =true/\hZ (T6 T k x)=true:=by cases k<;>first | exact⟨rfl,rfl⟩ | cases hk
 refine⟨h.ids,by simp [h.len],fun z hz=>?_,fun pre post hl=>?_,?_,?_⟩
 ·obtain⟨a1,a2,a3,a4⟩:=h.at_ z hz;grind [Ap]
 ·have:=h.ae9 (pre++[T6 T k x]) post (by simp [hl]);grind [Ap,Bj]
 ·simp only [Ap,map_cons,Al,and_eq_true];exact⟨by grind,h.pure⟩
 ·simp only [Ap,map_cons,all_cons,and_eq_true];exact⟨by grind,h.noi⟩
theorem GD {st:Ac T}: ∀ {ks:List Kd} {cs:List (DC T)} {y:DK T.den ks} {rs:List Ad},Oq st ks cs=some (y,rs)-> ∀ b:Nat, ∃ ars,wj st ks cs y rs b ars
 | [],[],y,rs,h,b=>by simp only [Oq,injEq]at h;injection h with h1 h2;subst h1 h2;exact⟨[],rfl,rfl,(by grind),(fun pre post _=>rfl),rfl,rfl⟩
 | [],_::_,_,_,h,_=>by simp [Oq]at h
 | k::_,[],_,_,h,_=>by grind [Oq]
 | .int k::ks,c::cs,y,rs,h,b=>by
   simp only [Oq]at h;split at h
   ·rename_i x y' rs' h1 h2;injection h with h;injection h with e1 e2;subst e1 e2;obtain⟨ars,ha⟩:=GD h2 (b+1);exact⟨ars,ha.sc (.int k) x c rfl ((BP h1).2 rfl)⟩
   ·cases h
 | .bool ::ks,c::cs,y,rs,h,b=>by
   simp only [Oq]at h;split at h
   ·rename_i x y' rs' h1 h2;injection h with h;injection h with e1 e2;subst e1 e2;obtain⟨ars,ha⟩:=GD h2 (b+1);exact⟨ars,ha.sc .bool x c rfl ((BP h1).2 rfl)⟩
   ·cases h
 | .str ::ks,c::cs,y,rs,h,b=>by
   simp only [Oq]at h;split at h
   ·rename_i x y' rs' h1 h2;injection h with h;injection h with e1 e2;subst e1 e2;obtain⟨ars,ha⟩:=GD h2 (b+1);exact⟨ars,ha.sc .str x c rfl ((BP h1).2 rfl)⟩
   ·cases h
 | .w_ F::ks,c::cs,y,rs,h,b=>by
   simp only [Oq]at h;split at h
   ·rename_i r ho;split at h
    ·rename_i F' l hr;split at h
     ·rename_i l' y' rs' h1 h2;injection h with h;injection h with e1 e2;subst e1 e2;obtain⟨e,rfl⟩:=Hk h1;subst e;obtain⟨ars,ha⟩:=GD h2 (b+1);obtain⟨q1,_,d,q2,q3,q4⟩:=Bg hr;have hc:=Di ho;refine⟨⟨b,r,F',T.sz F',l.length,l.flatMap (T.enc F')⟩::ars,by simp [ha.ids],by simp [ha.len],fun z hz=>?_,fun pre post hl=>?_,?_,?_⟩
      ·rcases mem_cons.1 hz with rfl | hz
       ·refine⟨q1,le_refl _,by simp,?_⟩;rw [hc,Ap,Nat.sub_self];rfl
       ·obtain⟨a1,a2,a3,a4⟩:=ha.at_ z hz;grind [Ap]
      ·have:=ha.ae9 (pre++[.isl F' (T.sz F') l.length (l.flatMap (T.enc F'))]) post (by simp [hl]);have e1:FZ (pre++((Ap (c::cs)).map Kw++post)) (⟨b,r,F',T.sz F',l.length,l.flatMap (T.enc F')⟩::ars)=FZ ((pre++[.isl F' (T.sz F') l.length (l.flatMap (T.enc F'))])++((Ap cs).map Kw++post)) ars:=by unfold FZ;simp_all [Ap]
       rw [e1,this];simp only [Bj,append_assoc,List.singleton_append,cons_append];rfl
      ·simp only [Ap,map_cons,Al,and_eq_true];rw [hc];exact⟨rfl,ha.pure⟩
      ·simp only [Ap,map_cons,all_cons,and_eq_true];rw [hc];exact⟨rfl,ha.noi⟩
     ·cases h
    ·cases h
   ·cases h
theorem U3 {w:World} {G:Ax}: ∀ {cs:List C} {vs:List Value},Ae w G cs vs->Ae w G (cs.map Kw) vs
 | [],[],_=>by simp [Ae]
 | [],_::_,h=>by grind
 | _::_,[],h=>by simp [Ae]at h
 | c::cs,v::vs,h=>by simp only [Ae,map_cons]at h ⊢;refine⟨?_,U3 h.2⟩;cases c<;>first | exact h.1 | (simp only [Kw,Ab];exact h.1.one)
theorem U4 {w:World} {G:Ax}: ∀ {cs:List C} {vs:List Value} {k:Nat} {c:C},Ae w G cs vs->cs[k]? =some c-> ∃ v,vs[k]? =some v/\Ab w G c v
 | [],_,_,_,_,h=>by simp at h
 | _::_,[],_,_,h,_=>by simp [Ae]at h
 | d::cs,v::vs,0,c,h,hc=>by simp only [getElem?_cons_zero,injEq]at hc;subst hc;simp only [Ae]at h;grind
 | d::cs,v::vs,k+1,c,h,hc=>by simp only [Ae]at h;obtain⟨u,h1,h2⟩:=U4 (k:=k) h.2 (by simpa using hc);exact⟨u,by simpa using h1,h2⟩
def dse (P:Program) (o:Oper) (st:Ac T):M (Ac T):=match o.op with
 | .store t x y=>match o.dst,st.arg [] x,st.arg [] y,FW P t with
   | none,some (.c (.rp id N i 0)),some (.agg cs),some (_,n)=>match G9 st id with
     | some ⟨E,(nn,l,none)⟩=>match Oq st (T.ks E) cs with
       | some (z,rs)=>A_ (DF id&&(Nat.beq N (T.sz E)&&(Nat.beq n (T.sz E)&&Jz rs))) (.opt (idx l i) fun _=> .opt (DG (i=nn)) fun _=>
        .ret ((st.aaQ (Qi rs id)).aaf id (.deep E (nn+1) (l.set i.toNat (T.bd E z)) none)))
       | none=> .no
     | _=> .no
   | _,_,_,_=> .no
 | _=> .no
theorem zO {H:Aq T} {P:Program} {I:World->Prop} {st:Ac T} (hw:Ay H st) {o:Oper}:Yl (dse P o st) (fun an=>(∃ H',Nx H st H' an)/\an.pre=st.pre/\ ∀ K:St->Prop,K an.toSt->El P I o st.toSt K):=by
 unfold dse;split
 ·rename_i t x y hop;split
  ·rename_i id N i cs ag n hd hx hy ht;split
   ·rename_i E nn l hdr;split
    ·rename_i z rs hea;refine Yl.A_ fun hg=>Yl.opt fun xx hxx=>Yl.opt fun u hu=>?_;simp only [and_eq_true,beq_eq]at hg;obtain⟨g1,g2,g3,g4⟩:=hg;subst g2 g3;have hin:i=nn:=BK hu;obtain⟨i0,i1,hxi⟩:=Gb hxx;obtain⟨a1,a2,a3⟩:=E3 hw hx;obtain⟨b1,b2,b3⟩:=E3 hw hy;obtain⟨hmk,hlr,e,he1,he2,he3⟩:=Br hdr;have hE:e.toE=⟨id,some (E,T.sz E,l.length),Av T E nn 0 l,true⟩:=by unfold DE.toE;rw [he3,he2];rfl
     obtain⟨ars,ha⟩:=GD hea (i.toNat*T.sz E);have hcl:cs.length=T.sz E:=ha.len;have aoa:=U2 (x':=T.bd E z) (n:=nn) (l:=l) (k:=0) (i:=i.toNat) (by omega) (by omega);obtain⟨⟨H1,n1⟩,k2,k3⟩:=JK hw (Qi rs id);obtain⟨H2,n2⟩:=Ac.aab n1.ok id (x:= .deep E (nn+1) (l.set i.toNat (T.bd E z)) none) trivial;refine Yl.ret ⟨⟨H2,n1.trans n2⟩,k2,fun K hK Fr a w G Q hI hR=>?_⟩;have hL:st.toSt.u_ id=some e.toE:=hR.v_ (mem_map.2 ⟨e,he1,rfl⟩) (by rw [hE]) g1;have H_:=hR.arg rfl a2;rw [a3]at H_;simp only [DV.toV,DC.toC,Aa,Ab,add_zero]at H_;obtain⟨b,hb1,hv⟩:=H_;have hyv:=hR.arg rfl b2;rw [b3]at hyv;simp only [DV.toV,Aa]at hyv;obtain⟨arr,hyv,hcs⟩:=hyv;have hvl:(a.eval y).cells.toList =arr.toList:=by rw [hyv];rfl
     have hlen:e.toE.cs.length=l.length*T.sz E:=by grind [Hb]
     have hle:i.toNat*T.sz E+T.sz E<=e.toE.cs.length:=by rw [hlen];have:(i.toNat+1)*T.sz E<=l.length*T.sz E:=mul_le_mul_right _ (by omega);grind
     have hxl:((Ap cs).map Kw).length =T.sz E:=by simp [hcl,AC]
     have hal:arr.toList.length=T.sz E:=by rw [<-hcs.length,AC,hcl]
     have hc:Ae w G ((Ap cs).map Kw) (a.eval y).cells.toList :=by grind [U3]
     obtain⟨cur,T',c1,c2,c3⟩:=hR.aa6 hL hb1 (off:=i.toNat*T.sz E) hc (by omega) ha.pure ha.noi;have hs:=Db (P:=P) ht c1 (by grind) c2 (Ae.one hc);rw [hvl]at hs c2 c3;have aah: ∀ j v,arr.toList[j]? =some v->(w.setRow b (cur.toList.take (i.toNat*T.sz E)++arr.toList++cur.toList.drop (i.toNat*T.sz E+arr.toList.length)).toArray).cell? ⟨b,i.toNat*T.sz E+j,none⟩=some v:=by intro j v hj;have:=setRow_heap w b cur (cur.toList.take (i.toNat*T.sz E)++arr.toList++cur.toList.drop (i.toNat*T.sz E+arr.toList.length)).toArray T' (0,0) c1;simp only [World.cell?,this];grind
     generalize w.setRow b _=w1 at hs c3 aah;have h_:(execOp a.eval o).run P w= .ok .skip w1:=by simp_all [execOp]
     have adR: ∀ d∈st.toSt.so,d.id ≠ id->d∈(st.toSt.ab8 id e.toE.row (e.toE.cs.take (i.toNat*T.sz E)++(Ap cs).map Kw++e.toE.cs.drop (i.toNat*T.sz E+((Ap cs).map Kw).length))).so :=fun d Y_ n_=>mem_map.2 ⟨d,Y_,C2 n_⟩;have hL2:(st.toSt.ab8 id e.toE.row (e.toE.cs.take (i.toNat*T.sz E)++(Ap cs).map Kw++e.toE.cs.drop (i.toNat*T.sz E+((Ap cs).map Kw).length))).u_ id=some ⟨id,e.toE.row,e.toE.cs.take (i.toNat*T.sz E)++(Ap cs).map Kw++e.toE.cs.drop (i.toNat*T.sz E+((Ap cs).map Kw).length),true⟩:=by refine c3.v_ (mem_map.2 ⟨e.toE,mem_map.2 ⟨e,he1,rfl⟩,?_⟩) rfl g1;grind [C3]
     have htl:(e.toE.cs.take (i.toNat*T.sz E)).length =i.toNat*T.sz E:=by grind
     have hsl:(e.toE.cs.take (i.toNat*T.sz E)++(Ap cs).map Kw++e.toE.cs.drop (i.toNat*T.sz E+((Ap cs).map Kw).length)).length =e.toE.cs.length:=by grind
     obtain⟨G',q⟩:=c3.adk (p:=Qi rs id) ars hL2 hb1 (fun ar har=>by
      obtain⟨p1,p2,p3,p4⟩:=ha.at_ ar har;obtain⟨hmr,acU⟩:=AZ p1;have hnd:=DP p1;have aeN:ar.r ≠ id:=(by grind);obtain⟨v,v1,v2⟩:=U4 hcs p4;simp only [Ab]at v2;refine⟨c3.abt (by grind) acU hnd rfl,by grind,am (by rw [<-ha.ids];grind),v,?_,v2.1⟩;grind) (by rw [ha.ids];exact Fw g4) ((st.aaQ (Qi rs id)).aaf id (.deep E (nn+1) (l.set i.toNat (T.bd E z)) none)).toSt (by
      have J_:WV (id,(DX.deep E (nn+1) (l.set i.toNat (T.bd E z)) none:DX T))=⟨id,e.toE.row,FZ (e.toE.cs.take (i.toNat*T.sz E)++(Ap cs).map Kw++e.toE.cs.drop (i.toNat*T.sz E+((Ap cs).map Kw).length)) ars,true⟩:=by
       show (⟨id,some (E,T.sz E,(l.set i.toNat (T.bd E z)).length),Av T E (nn+1) 0 (l.set i.toNat (T.bd E z)),true⟩:Ar)=_;rw [append_assoc,ha.ae9 _ _ htl,hxl, <-aoa];simp only [hE,length_set];congr 1;have:T.Z_ E (T.bd E z)=Bj T (T.ks E) z:=by rw [AX.Z_,T.ab7]
       rw [this]
      have hB:=RA (ns:=ars.map (·.r)) hw (p:=Qi rs id) (fun n hn=>by rw [ha.ids]at hn;exact SI hn) n2.ok J_;exact⟨hB.len,hB.tm,hB.ag9,hB.gh,fun x hx=>(hB.so x hx).imp (fun q=>q) (by grind),hB.nd,hB.pre⟩)
     exact DY h_ (by rw [hd];exact⟨_,G',hK,q⟩)
    ·exact Yl.no
   ·exact Yl.no
  ·exact Yl.no
 ·exact Yl.no
end Go.PL
set_option linter.all false
namespace Go.PL
open Go Go.RowKit
variable {T:AX}
def Or (st:Ac T):Option Operand->Option (Option Int)
 | none=>some none
 | some x=>match st.arg [] x with
   | some (.c (.k (.int _) i))=>some (some i)
   | _=>none
theorem E8 {H:Aq T} {st:Ac T} (hw:Ay H st) {x:Option Operand} {i:Option Int} (h:Or st x=some i) {F:Fr} {a:Act} {w:World} {G:Ax} (hR:R F st.toSt a w G): ∃ k:IntKind,x.map a.eval=i.map (Value.int k):=by
 cases x with
 | none=>simp only [Or,injEq]at h;subst h;simp_all
 | some x=>
   simp only [Or]at h;split at h
   ·rename_i k j hx;injection h with h;subst h;obtain⟨a1,a2,a3⟩:=E3 hw hx;have H_:=hR.arg rfl a2;rw [a3]at H_;simp only [DV.toV,DC.toC,AW,Aa,Ab]at H_;grind
   ·cases h
theorem mg {P:Program} (len cap:Nat) (k1 k2 k3:IntKind) (lo hi mx:Option Int) (hm:mx.isSome=true->hi.isSome=true) (h1:0<=lo.getD 0) (h2:lo.getD 0<=hi.getD len) (h3:hi.getD len<=mx.getD cap) (h4:mx.getD cap<=cap) (w:World):
 (Instr.sliceBounds true len cap (lo.map (Value.int k1)) (hi.map (Value.int k2)) (mx.map (Value.int k3))).run P w= .ok ((lo.getD 0).toNat,(hi.getD len).toNat,(mx.getD cap).toNat) w:=by
 have e1: ∀ code,mx.isSome=true->(Instr.sliceBound (.int k3 (mx.getD cap)) cap code).run P w= .ok (mx.getD cap).toNat w:=(by grind [f_]);have e2: ∀ code,(Instr.sliceBound (.int k2 (hi.getD len)) (mx.getD cap).toNat code).run P w= .ok (hi.getD len).toNat w:=(by grind [f_]);have e3: ∀ code,(Instr.sliceBound (.int k1 (lo.getD 0)) (hi.getD len).toNat code).run P w= .ok (lo.getD 0).toNat w:=(by grind [f_]);cases lo<;>cases hi<;>cases mx<;>simp only [getD_some,getD_none,Option.isSome_some,Option.isSome_none,Bool.false_eq_true,forall_const,imp_self,toNat_natCast]at hm e1 e2 e3 ⊢ <;>simp [Instr.sliceBounds,e1,e2,e3]
 all_goals first | rfl | (exact absurd hm (by simp))
def wl (P:Program) (o:Oper) (md:Bool) (st:Ac T):M (Ac T):=match o.op with
 | .slice t x lo hi mx=>match o.dst,st.arg [] x,Ck P t with
   | some d,some (.c (.c (.l_ id))),some (_,n)=>match CI st id,Or st lo,Or st hi,Or st mx with
     | some ⟨E,l⟩,some lo',some M_,some mx'=>A_ (Nat.beq n (T.sz E)&&(mx'.isNone||M_.isSome)) (match md with
       | true=>A_ mx'.isNone (.opt (DG (0<=lo'.getD 0/\lo'.getD 0<=M_.getD (l.length:Nat)/\M_.getD (l.length:Nat)<=(l.length:Nat)/\0<l.length)) fun _=> .ret (st.put (some d) (.c (.bs id E (lo'.getD 0) (M_.getD (l.length:Nat) - lo'.getD 0)))))
       | false=> .opt (DG (0<=lo'.getD 0/\lo'.getD 0<=M_.getD (l.length:Nat)/\M_.getD (l.length:Nat)<=mx'.getD (l.length:Nat)/\mx'.getD (l.length:Nat)<=(l.length:Nat))) fun _=> .ret (st.put (some d) (.c (.c .any))))
     | _,_,_,_=> .no
   | some d,some (.c (.bs id E0 o0 n0)),some (_,n)=>match CI st id,Or st lo,Or st hi,Or st mx with
     | some ⟨E,l⟩,some lo',some M_,some none=>A_ (Nat.beq n (T.sz E)&&Nat.beq E0 E) (.opt (DG (o0=0/\0<=lo'.getD 0/\lo'.getD 0<=M_.getD (n0.toNat:Nat)/\M_.getD (n0.toNat:Nat)<=(l.length:Nat)/\0<l.length)) fun _=> .ret (st.put (some d) (.c (.bs id E (lo'.getD 0) (M_.getD (n0.toNat:Nat) - lo'.getD 0)))))
     | _,_,_,_=> .no
   | _,_,_=> .no
 | _=> .no
theorem R.aa0 {F:Fr} {st:Ac T} {a:Act} {w:World} {G:Ax} (hR:R F st.toSt a w G) {id:Ad} {E:Nat} {l:List (T.den E)} (h:CI st id=some ⟨E,l⟩): ∃ v,G.own id=some v/\((∃ p,v= .slice p 0 0/\l.length=0)\/
 ∃ b cap cur,v= .slice (some ⟨b,0,none⟩) l.length cap/\G.blk id=some b/\w.heap[b]? =some (.cells cur E (0,0))/\l.length<=cap/\cap<=maxLen/\cur.size=cap*T.sz E/\Ai w G (l.flatMap (T.enc E)) b 0):=by
 obtain⟨h1,_⟩:=Bg h;obtain⟨hm,_⟩:=AZ h1;have hE:=hR.store _ hm;unfold AN at hE;obtain⟨_,v,e1,e2⟩:=hE;refine⟨v,e1,?_⟩;rcases e2 with ⟨p,q1,q2,_⟩ | ⟨b,cap,cur,q1,q2,q3,q4,q5,q6,q7⟩
 ·grind
 ·exact .inr ⟨b,cap,cur,q1,q2,q3,q4,q5,q6,q7⟩
theorem mh {H:Aq T} {P:Program} {I:World->Prop} {st:Ac T} (hw:Ay H st) {o:Oper} {md:Bool}:Yl (wl P o md st) (fun an=>(∃ H',Nx H st H' an)/\an.pre=st.pre/\zL P I o st.toSt an.toSt):=by
 unfold wl;split
 ·rename_i t x lo hi mx hop;split
  ·rename_i d id e n hd hx ht;split
   ·rename_i E l lo' M_ mx' hr q1 q2 q3;refine Yl.A_ fun hg=>?_;simp only [and_eq_true,beq_eq,Bool.or_eq_true]at hg;obtain⟨g1,g2⟩:=hg;obtain⟨a1,a2,a3⟩:=E3 hw hx;obtain⟨hu,inf,hi1,Tr⟩:=B4 ht;have hm:mx'.isSome=true->M_.isSome=true:=fun q=>by
     rcases g2 with g2 | g2
     all_goals simp_all
    have run: ∀ {F:Fr} {a:Act} {w:World} {G:Ax},R F st.toSt a w G-> ∀ len cap (ad:Option Addr),a.eval x= .slice ad len cap->0<=lo'.getD 0->lo'.getD 0<=M_.getD len->M_.getD len<=mx'.getD cap->mx'.getD cap<=cap-> ∀ w',(execOp a.eval o).run P w'= .ok (.value (.slice (if(mx'.getD cap).toNat =(lo'.getD 0).toNat then ad else ad.map (·.add ((lo'.getD 0).toNat *n))) ((M_.getD len).toNat - (lo'.getD 0).toNat) ((mx'.getD cap).toNat - (lo'.getD 0).toNat))) w':=by intro F a w G hR len cap ad hv b1 b2 b3 b4 w';obtain⟨k1,e1⟩:=E8 hw q1 hR;obtain⟨k2,e2⟩:=E8 hw q2 hR;obtain⟨k3,e3⟩:=E8 hw q3 hR;have hs:=mg (P:=P) len cap k1 k2 k3 lo' M_ mx' hm b1 b2 b3 b4 w';simp [execOp,hop,e1,e2,e3,hv,Instr.sliceAt,Instr.slice,Sem.run_bind,run_underlying hu,hs,sizeOf,typeInfo,program,Sem.run,hi1,Tr]
    split
    ·refine Yl.A_ fun hmx=>Yl.opt fun u hn=>Yl.ret ?_;have hn:=BK hn;have hmx:mx'=none:=by simp_all
     subst hmx;obtain⟨H1,n1⟩:=Ac.O_ hw (some d) (v:= .c (.bs id E (lo'.getD 0) (M_.getD (l.length:Nat) - lo'.getD 0))) (by grind [DV.ok,DC.ok]);refine⟨⟨H1,n1⟩,AH _ _ _,fun Fr a w G hI hR=>?_⟩;have H_:=hR.arg rfl a2;rw [a3]at H_;simp only [DV.toV,DC.toC,Aa,Ab]at H_;obtain⟨v,v1,v2⟩:=hR.aa0 hr;rw [H_.1]at v1;injection v1 with v1;rcases v2 with ⟨p,_,v2⟩ | ⟨b,cap,cur,rfl,v3,v4,v5,v6,v7,v8⟩
     ·omega
     ·have hs:=run hR l.length cap _ v1 hn.1 hn.2.1 (by simp only [getD_none];omega) (by simp);refine⟨_,G,fun w' _=>hs w',?_⟩;rw [hd,Ac.d_];refine hR.put ?_;simp only [DV.toV,DC.toC,Aa,Ab];refine⟨b,l.length,cap,(if cap=(lo'.getD 0).toNat then 0 else(lo'.getD 0).toNat *n),cap - (lo'.getD 0).toNat,by grind,?_,?_,by omega,fun Tw=>?_⟩
      ·simp only [getD_none,toNat_natCast];grind [Addr.add_mid]
      all_goals grind
    ·refine Yl.opt fun u hn=>Yl.ret ?_;have hn:=BK hn;obtain⟨H1,n1⟩:=Ac.O_ hw (some d) (v:= .c (.c .any)) (by simp only [DV.ok,DC.ok]);refine⟨⟨H1,n1⟩,AH _ _ _,fun Fr a w G hI hR=>?_⟩;have H_:=hR.arg rfl a2;rw [a3]at H_;simp only [DV.toV,DC.toC,Aa,Ab]at H_;obtain⟨v,v1,v2⟩:=hR.aa0 hr;rw [H_.1]at v1;injection v1 with v1;have hsl: ∃ ad cap,a.eval x= .slice ad l.length cap/\l.length<=cap:=by grind
     obtain⟨ad,cap,hsl,hlc⟩:=hsl;have hs:=run hR l.length cap ad hsl hn.1 hn.2.1 (by
      cases mx'<;>grind) (by
      cases mx'<;>grind)
     refine⟨_,G,fun w' _=>hs w',?_⟩;rw [hd,Ac.d_];refine hR.put ?_;simp only [DV.toV,DC.toC,Aa,Ab];rfl
   ·exact Yl.no
  ·rename_i d id E0 o0 n0 e n hd hx ht;split
   ·rename_i E l lo' M_ hr q1 q2 q3;refine Yl.A_ fun hg=>Yl.opt fun u hn=>Yl.ret ?_;simp only [and_eq_true,beq_eq]at hg;obtain⟨g1,g2⟩:=hg;subst g2;have hn:=BK hn;obtain⟨a1,a2,a3⟩:=E3 hw hx;simp only [DV.ok,DC.ok]at a1;obtain⟨hu,inf,hi1,Tr⟩:=B4 ht;obtain⟨H1,n1⟩:=Ac.O_ hw (some d) (v:= .c (.bs id E0 (lo'.getD 0) (M_.getD (n0.toNat:Nat) - lo'.getD 0))) (by grind [DV.ok,DC.ok]);refine⟨⟨H1,n1⟩,AH _ _ _,fun Fr a w G hI hR=>?_⟩;have H_:=hR.arg rfl a2;rw [a3]at H_;simp only [DV.toV,DC.toC,Aa,Ab]at H_;obtain⟨b1,adt,ad1,o1,aax,x1,x2,x3,x4,x5⟩:=H_;obtain⟨v,v1,v2⟩:=hR.aa0 hr;rw [x1]at v1;injection v1 with v1;rcases v2 with ⟨p,_,v2⟩ | ⟨b,cap,cur,q,v3,v4,v5,v6,v7,v8⟩
    ·omega
    ·rw [q]at v1;injection v1 with z1 z2 z3;injection z1 with z1;injection z1 with z1;subst z1 z2 z3;have ho1:o1=0:=by grind
     subst ho1;have hc1:aax=ad1:=by grind
     subst hc1;obtain⟨k1,e1⟩:=E8 hw q1 hR;obtain⟨k2,e2⟩:=E8 hw q2 hR;obtain⟨k3,e3⟩:=E8 hw q3 hR;have hs:=fun w'=>mg (P:=P) n0.toNat aax k1 k2 k3 lo' M_ none (by simp) hn.2.1 hn.2.2.1 (by simp only [getD_none];omega) (by simp) w';refine⟨.slice (if aax=(lo'.getD 0).toNat then some ⟨b1,0,none⟩else(some (⟨b1,0,none⟩:Addr)).map (·.add ((lo'.getD 0).toNat *n))) ((M_.getD (n0.toNat:Nat)).toNat - (lo'.getD 0).toNat) (aax - (lo'.getD 0).toNat),G,fun w' _=>?_,?_⟩
     ·have hsw:=hs w';simp only [getD_none,toNat_natCast,Option.map_none]at hsw e3;simp [execOp,hop,e1,e2,e3,x2,Instr.sliceAt,Instr.slice,Sem.run_bind,run_underlying hu,hsw,sizeOf,typeInfo,program,Sem.run,hi1,Tr]
     ·rw [hd,Ac.d_];refine hR.put ?_;simp only [DV.toV,DC.toC,Aa,Ab];refine⟨b1,l.length,aax,(if aax=(lo'.getD 0).toNat then 0 else(lo'.getD 0).toNat *n),aax - (lo'.getD 0).toNat,x1,?_,?_,by omega,fun Tw=>?_⟩
      ·grind [Addr.add_mid]
      all_goals grind
   ·exact Yl.no
  ·exact Yl.no
 ·exact Yl.no
end Go.PL
set_option linter.all false
namespace Go.PL
open Go Go.RowKit
variable {T:AX}
theorem U5 {α:Type} {f:α->List C} {n:Nat} (hf: ∀ x,(f x).length =n) (l:List α):(l.flatMap f).length =l.length*n:=DI hf l
theorem R.acP {F:Fr} {st:Ac T} {H:Aq T} {a:Act} {w:World} {G:Ax} (hR:R F st.toSt a w G) (hw:Ay H st) {id:Ad} {E:Nat} {l m:List (T.den E)} (h:CI st id=some ⟨E,l⟩) {b:Nat} (hb:G.blk id=some b) {off:Nat} {xs:List C} {vs:List Value} (hx:Ae w G xs vs) (hp:Al xs=true) (hml:m.length=l.length)
 (hm:(l.flatMap (T.enc E)).take off++xs++(l.flatMap (T.enc E)).drop (off+xs.length)=m.flatMap (T.enc E)) (aaC:off+xs.length<=l.length*T.sz E):
 ∃ cur T',w.heap[b]? =some (.cells cur T' (0,0))/\off+vs.length<=cur.size/\R F (st.aaf id (.row E m)).toSt a (w.setRow b (cur.toList.take off++vs++cur.toList.drop (off+vs.length)).toArray) G:=by
 obtain⟨h1,_,e,e1,e2,e3⟩:=Bg h;obtain⟨cur,T',c1,c2,c3⟩:=hR.stored h1 hb (off:=off) hx (by grind [U5,AG]);refine⟨cur,T',c1,c2,?_⟩;have:=Ac.ab4 hw e1 e2 (x:= .row E m) (cs:=m.flatMap (T.enc E)) (q:=Al xs) (by
  rw [DE.toE_row e3,e2,hp];show (⟨id,some (E,T.sz E,l.length),m.flatMap (T.enc E),true&&true⟩:Ar)=⟨id,some (E,T.sz E,m.length),m.flatMap (T.enc E),true⟩;rw [hml];rfl)
 grind
def zP (P:Program) (o:Oper) (st:Ac T):M (Ac T):=match o.op with
 | .call c=>match c.callee,c.args.toList,c.argTypes.toList with
   | .builtin .clear,[x],[t]=>match st.arg [] x,Ck P t with
     | some (.c (.bs id E0 o0 n0)),some (e,n)=>match CI st id,Nn P e with
       | some ⟨E,l⟩,some z=>match pY false E z with
         | some z0=>A_ (Nat.beq n (T.sz E)&&(Nat.beq z.length n&&(Nat.beq E0 E&&Nat.blt 0 n))) (.opt (DG (o0+n0<=(l.length:Nat)/\0<l.length)) fun _=>
          .ret ((st.aaf id (.row E (l.take o0.toNat++(List.replicate n0.toNat z0++l.drop (o0.toNat+n0.toNat))))).put o.dst (.tup [])))
         | none=> .no
       | _,_=> .no
     | _,_=> .no
   | _,_,_=> .no
 | _=> .no
theorem NC {α:Type} {f:α->List C} (z:α): ∀ n:Nat,(List.replicate n z).flatMap f=BB (f z) n
 | 0=>by simp [BB]
 | n+1=>by rw [List.replicate_succ,flatMap_cons,NC z n,Q4]
theorem wm {H:Aq T} {P:Program} {I:World->Prop} {st:Ac T} (hw:Ay H st) {o:Oper}:Yl (zP P o st) (fun an=>(∃ H',Nx H st H' an)/\an.pre=st.pre/\ ∀ K:St->Prop,K an.toSt->El P I o st.toSt K):=by
 unfold zP;split
 ·rename_i c hop;split
  ·rename_i x t aaD aas agd;split
   ·rename_i id E0 o0 n0 e n hx ht;split
    ·rename_i E l z hr hz;split
     ·rename_i z0 hz0;refine Yl.A_ fun hg=>Yl.opt fun u hn=>Yl.ret ?_;simp only [and_eq_true,beq_eq,Nat.blt_eq]at hg;obtain⟨g1,g2,g3,g4⟩:=hg;subst g1 g3;have hn:=BK hn;obtain⟨a1,a2,a3⟩:=E3 hw hx;simp only [DV.ok,DC.ok]at a1;obtain⟨hu,inf,hi1,Tr⟩:=B4 ht;obtain⟨z1,z2⟩:=FF hz;obtain⟨atp,zv,hi2,hzv,hzc⟩:=EQ z1;rw [hi1]at hi2;injection hi2 with hi2;subst hi2;have hzE:Ap z=T.enc E0 z0:=(FA hz0).2 rfl;obtain⟨H1,n1⟩:=Ac.aab hw id (x:= .row E0 (l.take o0.toNat++(List.replicate n0.toNat z0++l.drop (o0.toNat+n0.toNat)))) trivial;obtain⟨H2,n2⟩:=Ac.r_ n1 o.dst (v:= .tup []) (by simp [DV.ok,B7]);refine⟨⟨H2,n2⟩,by rw [AH];rfl,fun K hK Fr a w G Q hI hR=>?_⟩;have H_:=hR.arg rfl a2;rw [a3]at H_;simp only [DV.toV,DC.toC,Aa,Ab]at H_;obtain⟨b1,adt,ad1,o1,aax,x1,x2,x3,x4,x5⟩:=H_;obtain⟨v,v1,v2⟩:=hR.aa0 hr;rw [x1]at v1;injection v1 with v1;rcases v2 with ⟨p,_,v2⟩ | ⟨b,cap,cur,q,v3,v4,v5,v6,v7,v8⟩
      ·omega
      rw [q]at v1;injection v1 with y1 y2 y3;injection y1 with y1;injection y1 with y1;subst y1 y2 y3;have hzz:Ae w G (BB (T.enc E0 z0) n0.toNat) (Builtin.zeroCells zv.cells n0.toNat).toList :=by have hzl:=DW (w:=w) (G:=G) hzc;rw [hzE]at hzl;exact IT hzl (by rw [AG];exact g4) n0.toNat
      have hlen:(BB (T.enc E0 z0) n0.toNat).length =n0.toNat*T.sz E0:=by rw [<-NC,U5 (fun y=>AG E0 y),List.length_replicate]
      have hle:o0.toNat*T.sz E0+n0.toNat*T.sz E0<=l.length*T.sz E0:=by rw [<-add_mul];exact mul_le_mul_right _ (by omega)
      obtain⟨acb,T',c1,c2,c3⟩:=R.acP (m:=l.take o0.toNat++(List.replicate n0.toNat z0++l.drop (o0.toNat+n0.toNat))) hR hw hr v3 (off:=o0.toNat*T.sz E0) hzz (QU (by rw [<-hzE];have:=Cz (T:=T) (.s E0) z0;grind [Dk,V.pure]) _) (by simp;omega) (by
       rw [hlen,flatMap_append,flatMap_append,NC, <-EW (fun y=>AG E0 y), <-Gw (fun y=>AG E0 y),append_assoc,add_mul]) (by grind)
      have ea:c.args= #[x]:=by grind
      have et:c.argTypes= #[t]:=by grind
      have hzr:(zeroValue e).run P w= .ok zv w:=by simp_all [zeroValue,typeInfo]
      have aa3:=Ae.one hzz;by_cases h0:n0.toNat=0
      ·have agY:(Builtin.zeroCells zv.cells n0.toNat).toList =[]:=by rw [h0];simp [Builtin.zeroCells]
       have h_:(execOp a.eval o).run P w= .ok (.value (.tuple #[])) w:=by simp_all [execOp,resolve,invoke,builtin,Builtin.clear_,run_underlying]
       rw [agY]at c3;have aiv:w.setRow b1 (acb.toList.take (o0.toNat*T.sz E0)++([]:List Value)++acb.toList.drop (o0.toNat*T.sz E0+([]:List Value).length)).toArray =w:=by simp only [append_nil,List.length_nil,add_zero,List.take_append_drop,Array.toArray_toList];exact setRow_self w b1 acb T' (0,0) c1
       rw [aiv]at c3;exact Au h_ ⟨_,G,hK,by rw [Ac.d_];exact c3.put (by simp only [DV.toV,AQ,Aa,Ao];grind)⟩
      ·have ho1:o1=o0.toNat*T.sz E0:=x5 (by omega);have IN:=run_storeCells_at P b1 (o0.toNat*T.sz E0) T' (Builtin.zeroCells zv.cells n0.toNat).toList 0 acb w c1 (by grind) aa3;simp only [add_zero]at IN;generalize hw1:w.setRow b1 _=w1 at IN c3;have h_:(execOp a.eval o).run P w= .ok (.value (.tuple #[])) w1:=by have h0':n0.toNat ≠ 0:=h0;obtain⟨k,hk⟩:=Nat.exists_eq_succ_of_ne_zero h0';rw [hk]at IN;simp [execOp,hop,resolve,aaD,ea,et,invoke,builtin,Builtin.clear_,Sem.run_bind,run_underlying hu,x2,hk,hzr,ho1,IN]
       exact Au h_ ⟨_,G,hK,by rw [Ac.d_];exact c3.put (by simp only [DV.toV,AQ,Aa,Ao];grind)⟩
     ·exact Yl.no
    ·exact Yl.no
   ·exact Yl.no
  ·exact Yl.no
 ·exact Yl.no
def zQ (P:Program) (o:Oper) (st:Ac T):M (Ac T):=match o.op with
 | .call c=>match o.dst,c.callee,c.args.toList,c.argTypes.toList with
   | some d, .builtin .append,[x,y],[t,t']=>match st.arg [] x,st.arg [] y,Ck P t with
     | some (.c (.bs id E0 o0 i)),some (.c (.bs id2 E2 j m)),some (e,n)=>match CI st id with
       | some ⟨E,l⟩=>A_ ((AP id2 id&&(Nat.beq t t'&&Nat.beq e E))&&(Nat.beq n (T.sz E)&&(Nat.beq E0 E&&Nat.beq E2 E))) (.opt (DG (o0=0/\i+m<=(l.length:Nat)/\j+m<=(l.length:Nat)/\0<l.length)) fun _=>
        .ret ((st.aaf id (.row E (l.take i.toNat++((l.drop j.toNat).take m.toNat++l.drop (i.toNat+m.toNat))))).put (some d) (.c (.bs id E 0 (i+m)))))
       | none=> .no
     | _,_,_=> .no
   | _,_,_,_=> .no
 | _=> .no
theorem wn {H:Aq T} {P:Program} {I:World->Prop} {st:Ac T} (hw:Ay H st) {o:Oper}:Yl (zQ P o st) (fun an=>(∃ H',Nx H st H' an)/\an.pre=st.pre/\ ∀ K:St->Prop,K an.toSt->El P I o st.toSt K):=by
 unfold zQ;split
 ·rename_i c hop;split
  ·rename_i d x y t t' hd aaD aas agd;split
   ·rename_i id E0 o0 i id2 E2 j m e n hx hy ht;split
    ·rename_i E l hr;refine Yl.A_ fun hg=>Yl.opt fun u hn=>Yl.ret ?_;simp only [and_eq_true,beq_eq]at hg;obtain⟨⟨g0,gt,ge⟩,g1,g2,g3⟩:=hg;have g0:=(AE.1 g0).symm;subst g0 gt g1 g2 g3 ge;have hn:=BK hn;obtain⟨a1,a2,a3⟩:=E3 hw hx;obtain⟨b1,b2,b3⟩:=E3 hw hy;simp only [DV.ok,DC.ok]at a1 b1;obtain⟨hu,inf,hi1,Tr⟩:=B4 ht;obtain⟨H1,n1⟩:=Ac.aab hw id (x:= .row e (l.take i.toNat++((l.drop j.toNat).take m.toNat++l.drop (i.toNat+m.toNat)))) trivial;obtain⟨H2,n2⟩:=Ac.r_ n1 (some d) (v:= .c (.bs id e 0 (i+m))) (by grind [DV.ok,DC.ok]);refine⟨⟨H2,n2⟩,by rw [AH];rfl,fun K hK Fr a w G Q hI hR=>?_⟩;have H_:=hR.arg rfl a2;rw [a3]at H_;simp only [DV.toV,DC.toC,Aa,Ab]at H_;obtain⟨c1,adt,ad1,o1,aax,x1,x2,x3,x4,x5⟩:=H_;have hyv:=hR.arg rfl b2;rw [b3]at hyv;simp only [DV.toV,DC.toC,Aa,Ab]at hyv;obtain⟨c1',aqU,arR,o2,ahc,y1,y2,y3,y4,y5⟩:=hyv;rw [x1]at y1;injection y1 with y1;injection y1 with w1 w2 w3;injection w1 with w1;injection w1 with w1;subst w1 w2 w3;obtain⟨v,v1,v2⟩:=hR.aa0 hr;rw [x1]at v1;injection v1 with v1;rcases v2 with ⟨p,_,v2⟩ | ⟨b,cap,cur,q,v3,v4,v5,v6,v7,v8⟩
     ·omega
     rw [q]at v1;injection v1 with k1 k2 k3;injection k1 with k1;injection k1 with k1;subst k1 k2 k3;have ho1:o1=0:=by grind
     have hc1:aax=ad1:=by grind
     subst ho1 hc1;obtain⟨us,u1,u2⟩:=v8.list;have hul:us.length=l.length*T.sz e:=by rw [<-u1.length,U5 (fun y=>AG e y)]
     have hmv:Ae w G (((l.drop j.toNat).take m.toNat).flatMap (T.enc e)) ((us.drop (j.toNat*T.sz e)).take (m.toNat*T.sz e)):=by rw [<-EW (fun y=>AG e y), <-Gw (fun y=>AG e y)];exact(u1.drop _).take _
     have hjm:j.toNat*T.sz e+m.toNat*T.sz e<=l.length*T.sz e:=by rw [<-add_mul];exact mul_le_mul_right _ (by omega)
     have him:i.toNat*T.sz e+m.toNat*T.sz e<=l.length*T.sz e:=by rw [<-add_mul];exact mul_le_mul_right _ (by omega)
     have hnl:((us.drop (j.toNat*T.sz e)).take (m.toNat*T.sz e)).length =m.toNat*T.sz e:=by rw [List.length_take,List.length_drop];omega
     have hxl:(((l.drop j.toNat).take m.toNat).flatMap (T.enc e)).length =m.toNat*T.sz e:=by rw [hmv.length,hnl]
     have aea:Al (((l.drop j.toNat).take m.toNat).flatMap (T.enc e))=true:=CS _ (fun y=>by have:=Cz (T:=T) (.s e) y;simpa only [Dk,V.pure] using this) _;obtain⟨acb,T',s1,s2,s3⟩:=R.acP (m:=l.take i.toNat++((l.drop j.toNat).take m.toNat++l.drop (i.toNat+m.toNat))) hR hw hr v3 (off:=i.toNat*T.sz e) hmv aea (by simp;omega) (by
      rw [hxl,flatMap_append,flatMap_append, <-EW (fun y=>AG e y) l i.toNat, <-Gw (fun y=>AG e y) l (i.toNat+m.toNat),append_assoc,add_mul]) (by grind)
     rw [v4]at s1;injection s1 with s1;injection s1 with s1 s1' _;subst s1 s1';have afp: ∀ jj u',((us.drop (j.toNat*T.sz e)).take (m.toNat*T.sz e))[jj]? =some u'->w.cell? ((⟨c1,o2,none⟩:Addr).add jj)=some u':=by
      intro jj u' hj;have Tw:jj<m.toNat*T.sz e:=by grind
      have hm0:0<m.toNat:=by grind
      have ho2:o2=j.toNat*T.sz e:=y5 (by omega);rw [List.getElem?_take,if_pos Tw,List.getElem?_drop]at hj;have:=u2 _ _ hj;simp_all [Addr.add_mid]
     have aiw:=run_append_room (P:=P) w t o.type e inf hu hi1 c1 i.toNat aax cur v4 ⟨c1,o2,none⟩ m.toNat ahc ((us.drop (j.toNat*T.sz e)).take (m.toNat*T.sz e)) (by grind) afp (Ae.one hmv) (by omega) (by grind);rw [Tr]at aiw;have ea:c.args= #[x,y]:=by grind
     have et:c.argTypes= #[t,t]:=by grind
     generalize w.setRow c1 _=w1 at aiw s3;have h_:(execOp a.eval o).run P w= .ok (.value (.slice (some ⟨c1,0,none⟩) (i.toNat+m.toNat) aax)) w1:=by simp_all [execOp,resolve,invoke,builtin]
     refine Au h_ ⟨_,G,hK,?_⟩;rw [hd,Ac.d_];refine s3.put ?_;simp only [DV.toV,DC.toC,Aa,Ab];exact⟨c1,l.length,aax,0,aax,x1,by rw [show (i+m).toNat =i.toNat+m.toNat by omega],by omega,by simp,fun _=>by simp⟩
    ·exact Yl.no
   ·exact Yl.no
  ·exact Yl.no
 ·exact Yl.no
end Go.PL
set_option linter.all false
namespace Go.PL
open Go Go.RowKit
variable {T:AX}
def dtr (d:Nat) (st:Ac T):M (Ac T):=match st.get d with
 | .c (.bs id E0 o n)=>match CI st id with
   | some ⟨E,l⟩=>A_ (Nat.beq E0 E) (.opt (DG (o=0/\n<=(l.length:Nat)/\0<l.length)) fun _=>match st.new id (.row E (l.take n.toNat))with
     | some s=> .ret (s.put (some d) (.c (.c (.l_ id))))
     | none=> .no)
   | none=> .no
 | _=> .no
theorem zR {H:Aq T} {st:Ac T} (hw:Ay H st) {d:Nat}:Yl (dtr d st) (fun an=>(∃ H',Nx H st H' an)/\an.pre=st.pre/\Wk st.toSt an.toSt):=by
 unfold dtr;split
 ·rename_i id E0 o n hs;split
  ·rename_i E l hr;refine Yl.A_ fun hg=>Yl.opt fun u hn=>?_;have hg:=eq_of_beq_eq_true hg;subst hg;have hn:=BK hn;have hok:=Ac.acW hw d;rw [hs]at hok;simp only [DV.ok,DC.ok]at hok;split
   ·rename_i s J_;refine Yl.ret ?_;obtain⟨⟨H1,n1⟩,h2,h3⟩:=Ac.aaK hw (x:= .row E0 (l.take n.toNat)) trivial J_;obtain⟨H2,n2⟩:=Ac.r_ n1 (some d) (v:= .c (.c (.l_ id))) (by simp only [DV.ok,DC.ok]);refine⟨⟨H2,n2⟩,by rw [AH];exact h3,fun F a w G hR=>?_⟩;have hsl:=hR.slots d;have hge:=st.aaa d;rw [hs]at hge;have hsl:Aa w G (st.toSt.get d) (a.tmps.getD d Go.undef):=hsl;rw [hge]at hsl;simp only [DV.toV,DC.toC,Aa,Ab]at hsl;obtain⟨b1,adt,ad1,o1,aax,x1,x2,x3,x4,x5⟩:=hsl;obtain⟨v,v1,v2⟩:=hR.aa0 hr;rw [x1]at v1;injection v1 with v1;rcases v2 with ⟨p,_,v2⟩ | ⟨b,cap,cur,q,v3,v4,v5,v6,v7,v8⟩
    ·omega
    rw [q]at v1;injection v1 with k1 k2 k3;injection k1 with k1;injection k1 with k1;subst k1 k2 k3;have ho1:o1=0:=by grind
    have hc1:aax=ad1:=by grind
    subst ho1 hc1;have aea:Al ((l.take n.toNat).flatMap (T.enc E0))=true:=CS _ (fun y=>by have:=Cz (T:=T) (.s E0) y;grind [Dk,V.pure]) _;have Tw:b1<w.heap.size:=(by grind);have ac8:=hR.set ⟨id,some (E0,T.sz E0,(l.take n.toNat).length),(l.take n.toNat).flatMap (T.enc E0),true⟩ (some b1) (some (a.tmps.getD d Go.undef)) ⟨rfl,rfl,rfl⟩ (le_refl _) (fun _ _ _=>rfl) (fun _ _ _=>rfl) (fun b' hb'=>by
     injection hb' with hb';subst hb';exact⟨.inr ⟨v3,BU.same rfl⟩,Tw⟩) (fun _=>aea) (by
     refine IR (Ar.abl _ _) ⟨?_,a.tmps.getD d Go.undef,by simp [Bv,Ar.x_], .inr ⟨b1,aax,cur,?_,by simp [Bv,Ar.x_],v4,?_,v6,v7,?_⟩⟩
     ·show ((l.take n.toNat).flatMap (T.enc E0)).length =_;grind [U5,AG]
     ·grind
     ·grind
     ·show Ai w (Bv F G id (some b1) (some (a.tmps.getD d Go.undef))) ((l.take n.toNat).flatMap (T.enc E0)) b1 0;have hk:=hR.keeps id (some b1) (some (a.tmps.getD d Go.undef)) (by grind) (fun _ _ _=>rfl) (fun b' hb'=>by injection hb' with hb';subst hb';exact .inr ⟨v3,BU.same rfl⟩);have:=v8.take (n.toNat*T.sz E0);rw [EW (fun y=>AG E0 y)]at this;exact Ai.mono hk _ _ _ (fun i hi=>absurd (show Bm i ((l.take n.toNat).flatMap (T.enc E0))=true from hi) (by rw [AL i _ aea];simp)) (fun _=>rfl) this)
    have hl:=ac8.less h2;refine⟨Bv F G id (some b1) (some (a.tmps.getD d Go.undef)),?_⟩;rw [Ac.d_];exact hl.aci (by simp only [DV.toV,DC.toC,Aa,Ab];exact⟨by simp [Bv],by rw [x2];rfl⟩)
   ·exact Yl.no
  ·exact Yl.no
 ·exact Yl.no
def dpn (r:Ad) (st:Ac T):Option (Ac T):=match CI st r with
 | some ⟨E,l⟩=>some (AY [(1000003::r, .deep E 0 l none)] (st.s_ (fun i=>match AP i r with | true=>true | false=>match AP i (1000003::r)with | true=>true | false=>Io.abK (1000003::r) i)))
 | none=>none
def ddp (d:Nat) (st:Ac T):M (Ac T):=match st.get d with
 | .c x=>match HV x with
   | some r=>match dpn r st with
     | some s=> .ret (s.put (some d) (.c (.c (.l_ (1000003::r)))))
     | none=> .no
   | none=> .no
 | _=> .no
theorem U6 (E:Nat): ∀ (k:Int) (l:List (T.den E)),0<=k->Av T E 0 k l=l.flatMap (T.enc E)
 | _,[],_=>rfl
 | k,x::l,h=>by rw [Av,if_neg (by omega),U6 E (k+1) l (by omega),flatMap_cons]
theorem wo (E:Nat) (x:T.den E):(T.enc E x).all hZ=true:=by
 rw [<-T.V_];have: ∀ (ks:List Kd) (y:DK T.den ks),(Bd T.enc ks y).all hZ=true:=by
  intro ks;induction ks with
  | nil=>intro _;rfl
  | cons k ks ih=>
    intro y;simp only [Bd,all_cons,and_eq_true];exact⟨by cases k<;>rfl,ih y.2⟩
 grind
theorem eD {H:Aq T} {st s:Ac T} (hw:Ay H st) {r:Ad} (h:dpn r st=some s):(∃ H',Nx H st H' s)/\s.pre=st.pre/\ ∀ (F:Fr) (a:Act) (w:World) (G:Ax),R F st.toSt a w G-> ∃ G',R F s.toSt a w G'/\G'.own (1000003::r)=G.own r:=by
 unfold dpn at h;split at h
 ·rename_i E l hr;injection h with h;subst h;have hp:(fun i=>match AP i r with | true=>true | false=>match AP i (1000003::r)with | true=>true | false=>Io.abK (1000003::r) i)=(fun i=>i==r||(i==1000003::r||C4 (1000003::r) i)):=by grind [B1,HZ]
  rw [hp];obtain⟨⟨H1,n1⟩,k1,k2,k3,k4,k5⟩:=Ac.aaB hw (fun i=>i==r||(i==1000003::r||C4 (1000003::r) i));obtain⟨H2,n2⟩:=GC (l:=[(1000003::r,DX.deep E 0 l none)]) n1 (fun p hp=>by rcases mem_singleton.1 hp with rfl;trivial) (by simp) (fun p hp e he q=>by grind)
  obtain⟨s1,s2,s3,s4,s5,_⟩:=Dp [(1000003::r,DX.deep E 0 l none)] (st.s_ (fun i=>i==r||(i==1000003::r||C4 (1000003::r) i)));refine⟨⟨H2,n2⟩,by grind,fun F a w G hR=>?_⟩;obtain⟨q1,_,e,q2,q3,q4⟩:=Bg hr;obtain⟨G',g1,g2⟩:=hR.ag_ q1 rfl rfl (by
   grind [wo]) (id:=1000003::r) rfl rfl
  refine⟨G',?_,g2⟩;have adz:B0 (st.toSt.a_ (fun i=>i==r||(i==1000003::r||C4 (1000003::r) i)) (⟨1000003::r,some (E,T.sz E,l.length),l.flatMap (T.enc E),true⟩::((st.toSt.so.filter (fun d=>d.id != r&&d.id != 1000003::r)).map (Ar.a_ (fun i=>i==r||(i==1000003::r||C4 (1000003::r) i))))))
   (AY [(1000003::r,DX.deep E 0 l none)] (st.s_ (fun i=>i==r||(i==1000003::r||C4 (1000003::r) i)))).toSt :=by
   refine H5 ?_ ?_ ?_ (DR n2.ok) ?_
   ·have:(AY [(1000003::r,DX.deep E 0 l none)] (st.s_ (fun i=>i==r||(i==1000003::r||C4 (1000003::r) i)))).toSt.tm =(st.s_ (fun i=>i==r||(i==1000003::r||C4 (1000003::r) i))).toSt.tm :=by grind [Ac.toSt]
    rw [this];exact k1
   ·have:(AY [(1000003::r,DX.deep E 0 l none)] (st.s_ (fun i=>i==r||(i==1000003::r||C4 (1000003::r) i)))).toSt.gh =(st.s_ (fun i=>i==r||(i==1000003::r||C4 (1000003::r) i))).toSt.gh :=by simp only [Ac.toSt,s2]
    rw [this];exact k2
   ·intro z hz;rw [s5]at hz;simp only [map_cons,map_nil,List.singleton_append,mem_cons]at hz;simp only [St.a_,mem_cons,mem_map,mem_filter];rcases hz with rfl | hz
    ·left;show (⟨1000003::r,some (E,T.sz E,l.length),Av T E 0 0 l,true⟩:Ar)=_;simp_all [U6]
    grind
   ·show (AY _ _).pre =st.pre;grind
  exact g1.less adz
 ·cases h
theorem rH {H:Aq T} {st:Ac T} (hw:Ay H st) {d:Nat}:Yl (ddp d st) (fun an=>(∃ H',Nx H st H' an)/\an.pre=st.pre/\Wk st.toSt an.toSt):=by
 unfold ddp;split
 ·rename_i x hs;split
  ·rename_i r ho;have:=Di ho;subst this;split
   ·rename_i s hr;obtain⟨⟨H2,n2⟩,p2,k2⟩:=eD hw hr;obtain⟨H3,n3⟩:=Ac.r_ n2 (some d) (v:= .c (.c (.l_ (1000003::r)))) (by simp only [DV.ok,DC.ok]);refine Yl.ret ⟨⟨H3,n3⟩,by rw [AH,p2],fun F a w G hR=>?_⟩;have hsl:Aa w G (st.toSt.get d) (a.tmps.getD d Go.undef):=hR.slots d;rw [st.aaa d,hs]at hsl;simp only [DV.toV,DC.toC,Aa,Ab]at hsl;obtain⟨G',g1,g2⟩:=k2 F a w G hR;refine⟨G',?_⟩;rw [Ac.d_];exact g1.aci (by simp_all [DV.toV,DC.toC,Aa,Ab])
   ·exact Yl.no
  ·exact Yl.no
 ·exact Yl.no
def jh (id:Ad) (E:Nat) (l:List (T.den E)) (c:DC T):DC T:=match HV c with
 | some i=>match AP i id with
   | true=> .k (.w_ E) l
   | false=>JH (fun i=>match AP i id with | true=>true | false=>Io.abK id i) c
 | none=>JH (fun i=>match AP i id with | true=>true | false=>Io.abK id i) c
def U7 (id:Ad) (E:Nat) (l:List (T.den E)):DV T->DV T
 | .c x=> .c (jh id E l x)
 | .agg cs=> .agg (cs.map (jh id E l))
 | _=> .u
def ji (id:Ad) (E:Nat) (l:List (T.den E)):DX T->DX T
 | .box cs=> .box (cs.map (jh id E l))
 | x=>x
def pFT (id i:Ad):Bool:=match AP i id with
 | true=>true
 | false=>Io.abK id i
theorem rI (id:Ad):pFT id=pF id:=by grind [pFT,pF,B1,HZ]
def Ac.ajJ (st:Ac T) (id:Ad):Option (Ac T):=match DF id with
 | false=>none
 | true=>match G9 st id with
   | some ⟨E,(_,l,none)⟩=>some (let s:=st.abz (DV.c_ (pFT id)) (U7 id E l) (DX.c_ (pFT id)) (ji id E l);{s with so:=s.so.filter fun e=> !(AP e.id id)})
   | _=>none
theorem U8 (id:Ad) (E:Nat) (l:List (T.den E)) (c:DC T):(jh id E l c).toC =PR id l.length (l.flatMap (T.enc E)) c.toC:=by
 have hp:(fun i=>match AP i id with | true=>true | false=>Io.abK id i)=pF id:=rI id;unfold jh;rw [hp];split
 ·rename_i i ho;have:=Di ho;grind [AE,DC.toC,AW,lD,Lh,SC]
 grind [Lh,SC,JD]
theorem mj {id:Ad} {E:Nat} {l:List (T.den E)} {c:DC T} (h:c.ok):(jh id E l c).ok :=by grind [jh,DC.ok,UY]
theorem SJ {id:Ad} {n:Nat} {ds:List C}: ∀ {l:List C},BX (pF id) l=false->l.map (PR id n ds)=l
 | [],_=>rfl
 | c::l,h=>by simp only [BX,Bool.or_eq_false_iff]at h;rw [map_cons,SJ h.2,SC,BJ,if_neg (by simp [h.1])];grind [C.c_,pF]
theorem wq {id:Ad} {n:Nat} {ds:List C} {v:V} (h:v.c_ (pF id)=false):Mz id n ds v=v:=by
 cases v with
 | c x=>
   have:=SJ (n:=n) (ds:=ds) (l:=[x]) (by simpa [BX,V.c_] using h);grind [Mz]
 | agg cs=>grind [Mz,SJ,V.c_]
 | tup vs=>exact Ma h
 | g b x=>exact Ma h
 | undef=>exact Ma h
theorem ao (id:Ad) (l:List (DE T)):(l.filter fun e=> !(AP e.id id)).map DE.toE=(l.map DE.toE).filter (fun d=>d.id != id):=ac3 id l
theorem oM {H:Aq T} {st an:Ac T} {id:Ad} (h:Ay H st) (hk:st.ajJ id=some an):(∃ H',Nx H st H' an)/\Wk st.toSt an.toSt/\an.pre=st.pre:=by
 unfold Ac.ajJ at hk;split at hk
 ·cases hk
 ·rename_i hd;split at hk
  ·rename_i E n l hr;injection hk with hk;subst hk;rw [rI];obtain⟨H',hN⟩:=Ac.abI (p:=DV.c_ (pF id)) (f:=U7 id E l) (q:=DX.c_ (pF id)) (g:=ji id E l) h (fun {H n v} hv=>by
    cases v<;>grind [U7,DV.ok,mj,Oh]) (fun {x} hx=>by
    cases x<;>grind [ji,DX.ok,Oh,mj])
   refine⟨⟨H',hN.ext,hN.le,Dg hN.ok _⟩,fun F a w G hR=>?_,rfl⟩;obtain⟨hmk,_,e,e1,e2,e3⟩:=Br hr;have hE:e.toE=⟨id,some (E,T.sz E,l.length),Av T E n 0 l,true⟩:=by unfold DE.toE;rw [e3,e2];rfl
   have hL:st.toSt.u_ id=some e.toE:=hR.v_ (mem_map.2 ⟨e,e1,rfl⟩) (by rw [hE]) hd;obtain⟨G',g⟩:=hR.aia hL (by rw [hE]) (cells:=l.flatMap (T.enc E)) (by grind [NA]);refine⟨G',g.less ?_⟩;have f1: ∀ v:DV T,v.c_ (pF id)=true->(U7 id E l v).toV = .undef \/(U7 id E l v).toV =Mz id l.length (l.flatMap (T.enc E)) v.toV:=fun v _=>by
    cases v with
    | c x=>grind [U7,DV.toV,Mz,U8]
    | agg cs=>
      right;simp only [U7,DV.toV,Mz,BT,map_map];grind [map_congr_left,U8]
    | _=>grind [U7,DV.toV]
   have f2: ∀ v:DV T,v.c_ (pF id)=false->Mz id l.length (l.flatMap (T.enc E)) v.toV=v.toV:=(by grind [wq,DV.acB]);have sl: ∀ (m n:Nat) (tm:Tm T),Gz ((Aw m tm).map (Mz id l.length (l.flatMap (T.enc E)))) (Aw m (MA (DV.c_ (pF id)) (U7 id E l) n tm)):=fun m n tm=>by unfold Aw;rw [map_map];refine Gz.map fun i _=>?_;simp only [Function.comp,JB (p:=DV.c_ (pF id)) (f:=U7 id E l) (by simp [DV.c_])];grind
   have gl: ∀ (g:List (Nat×Tm T)) (n:Nat),Gz ((g.flatMap fun f=>Aw f.1 f.2).map (Mz id l.length (l.flatMap (T.enc E)))) ((Nk (DV.c_ (pF id)) (U7 id E l) n g).flatMap fun f=>Aw f.1 f.2):=by
    intro g;induction g with
    | nil=>intro _;trivial
    | cons x r ih=>
      intro n;obtain⟨m,tm⟩:=x;simp only [Nk,flatMap_cons,map_append];exact(sl m n tm).append (ih _)
   refine H5 (sl _ _ _) (gl _ _) ?_ (DR (Dg hN.ok _)) rfl;intro z hz;have hz:z∈((Nl (DX.c_ (pF id)) (ji id E l) (st.nx+st.tm.length+J8 st.gh) st.so).filter fun e=> !(AP e.id id)).map DE.toE:=hz;have hF: ∀ x∈st.so,(DX.c_ (pF id) x.x=true-> ∀ t,(⟨x.id,t,ji id E l x.x⟩:DE T).toE =Ar.frD id l.length (l.flatMap (T.enc E)) x.toE)/\(DX.c_ (pF id) x.x=false->Ar.frD id l.length (l.flatMap (T.enc E)) x.toE=x.toE):=by
    intro x _;have base: ∀ t,(⟨x.id,t,ji id E l x.x⟩:DE T).toE =Ar.frD id l.length (l.flatMap (T.enc E)) x.toE:=fun t=>by
     unfold DE.toE;cases hxx:x.x with
     | box cs=>
       simp only [ji,Ar.frD,BT,map_map,Ar.mk.injEq,and_true,true_and];grind [map_congr_left,U8]
     | row E l=>rfl
     | deep E n l h=>rfl
    grind [DE.toE,DX.c_,Ei,Ar.frD,SJ]
   rw [ao,K4 (F:=Ar.frD id l.length (l.flatMap (T.enc E))) _ hF]at hz;obtain⟨h1,h2⟩:=mem_filter.1 hz;obtain⟨d,h3,rfl⟩:=mem_map.1 h1;refine mem_map.2 ⟨d,mem_filter.2 ⟨h3,?_⟩,rfl⟩;have:(Ar.frD id l.length (l.flatMap (T.enc E)) d).id =d.id:=by obtain⟨i,r,cs,_ | _⟩:=d<;>rfl
   grind
  ·cases hk
end Go.PL
namespace Go.PL
open Go Go.RowKit
variable {T:AX}
theorem ND: ∀ {vs:List Value} {l:List C},CY vs=some l-> ∀ v∈vs,(B3 v).isSome =true
 | [],_,_,v,hv=>by cases hv
 | x::vs,l,h,v,hv=>by
   unfold CY at h;split at h
   ·rename_i c cs h1 h2;rcases mem_cons.1 hv with rfl | hv
    ·rw [h1];rfl
    ·exact ND h2 v hv
   ·cases h
theorem eE {P:Program} {st:St} {w:World} {G:Ax} {d:Nat} {t:TypeId} {l c:V} {u v:Value} (hx:Aa w G l u) (hy:Aa w G c v) (hs:(HQ P st d t l c).1) {r:Value} {w':World} (hr:(Instr.makeSlice t u v).run P w= .ok r w'):
 ∃ len cap,r= .slice (some ⟨w.heap.size,0,none⟩) len cap/\ ∀ k v,w'.cell? ⟨w.heap.size,k,none⟩=some v->(B3 v).isSome =true:=by
 unfold HQ at hs;split at hs
 ·rename_i k1 l k2 c E n by' R_;split at hs
  ·rename_i z hz;obtain⟨h0,h1,h2,h3,h4,h5⟩:=hs;obtain⟨i,zv,hu,hi,hzv,Tr,hby,hzs⟩:=Bh R_;obtain⟨i',zv',M_,Tq,hc⟩:=EQ hz;rw [hi]at M_;injection M_ with M_;subst M_;rw [hzv]at Tq;injection Tq with Tq;subst Tq;have hM:maxLen=9223372036854775807:=rfl;simp only [Aa,Ab]at hx hy;subst hx hy;have h_:=run_make (P:=P) w t E i zv hu hi hzv k1 k2 l c h0 h1 (by rw [hby,Int.mul_comm];omega) (by omega);rw [h_]at hr;injection hr with hr1 hr2;subst hr1 hr2;refine⟨_,_,rfl,fun k v hv=>?_⟩;have abg:=ND hc;have aah:(madeCells zv.cells (c.toNat*i.size))[k]? =some v:=by simp_all
   have hk:k<c.toNat*i.size:=by grind [madeCells]
   have hz0:0<zv.cells.size:=by grind
   grind [madeCells,Nat.mod_lt]
  grind
 grind
theorem zS {w:World} {G:Ax} {n:Nat} {cs:List C} {v:Value} (h:Ab w G (.sl n cs) v) (hc:(B3 v).isSome =true):v= .slice none 0 0/\n=0/\cs=[]:=by simp only [Ab]at h;obtain⟨_,a,cap,rfl,h1,_,h3,_⟩:=h;unfold B3 at hc;grind
theorem U9: ∀ {ks:List Kd} {y:DK T.den ks} {p:Nat} {c:C},(Bj T ks y)[p]? =some c->(∃ F n cs,c= .isl F (T.sz F) n cs/\(Bd T.enc ks y)[p]? =some (.sl n cs))\/((Bd T.enc ks y)[p]? =some c/\hZ c=true)
 | [],_,_,_,h=>by simp [Bj]at h
 | k::ks,y,0,c,h=>by
   simp only [Bj,getElem?_cons_zero,injEq]at h;simp only [Bd,getElem?_cons_zero,injEq];cases k with
   | w_ F=>exact .inl ⟨F,_,_,h.symm,rfl⟩
   | int _=>exact .inr ⟨h,by rw [<-h];rfl⟩
   | bool=>exact .inr ⟨h,by rw [<-h];rfl⟩
   | str=>exact .inr ⟨h,by rw [<-h];rfl⟩
 | k::ks,y,p+1,c,h=>by simp only [Bj,List.getElem?_cons_succ]at h;simp only [Bd,List.getElem?_cons_succ];exact U9 h
theorem Va {E:Nat} {n:Int}: ∀ {l:List (T.den E)} {k:Int} {j:Nat} {c:C},k+l.length<=n->(Av T E n k l)[j]? =some c->(∃ F m cs,c= .isl F (T.sz F) m cs/\(l.flatMap (T.enc E))[j]? =some (.sl m cs))\/((l.flatMap (T.enc E))[j]? =some c/\hZ c=true)
 | [],_,_,_,_,h=>by simp [Av]at h
 | x::l,k,j,c,hn,h=>by
   simp only [Av,List.length_cons]at h hn;rw [if_pos (by omega)]at h;have hl:(T.Z_ E x).length =(T.enc E x).length :=by
    unfold AX.Z_;rw [<-T.V_];have: ∀ (ks:List Kd) (y:DK T.den ks),(Bj T ks y).length =(Bd T.enc ks y).length :=by intro ks;induction ks<;>grind [Bj,Bd]
    grind
   rw [flatMap_cons];by_cases hj:j<(T.Z_ E x).length
   ·rw [List.getElem?_append_left hj]at h;rw [List.getElem?_append_left (by omega), <-T.V_];exact U9 h
   ·rw [getElem?_append_right (by omega)]at h;rw [getElem?_append_right (by omega), <-hl];exact Va (by omega) h
theorem Ot {E:Nat} {n:Int}: ∀ (l:List (T.den E)) (k:Int),Al (Av T E n k l)=true
 | [],_=>rfl
 | x::l,k=>by
   rw [Av,Bl,Ot l (k+1),Bool.and_true];split
   ·exact oK E x
   ·have:=Cz (T:=T) (.s E) x;grind [Dk,V.pure]
def zT:Int->Bool
 | .ofNat 0=>true
 | _=>false
theorem oN {n:Int} (h:zT n=true):n=0:=by grind [zT]
def wt (P:Program) (o:Oper) (st:Ac T) (d:Nat):M (Ac T):= .y_ (oc P st o) fun st1=> .y_ (ddp d st1) fun st2=>match st2.get d with
    | .c (.c (.l_ id))=>match G9 st2 id with
      | some ⟨E,(nn,l,none)⟩=>A_ (DF id&&(Nat.blt d st2.m&&zT nn)) (.opt (DG (0<l.length)) fun _=> .ret ((st2.s_ (Io.abK id)).aaf id (.deep E (List.length l:Nat) l none)))
      | _=> .no
    | _=> .no
def jk:DC T->Bool
 | .k (.w_ _) _=>false
 | .k _ _=>true
 | .c .P_ =>true
 | _=>false
def wv:List (DC T)->Bool
 | []=>true
 | c::r=>jk c&&wv r
def Qj:List (Nat×DV T)->Bool
 | []=>true
 | (_, .agg cs)::r=>wv cs&&Qj r
 | _=>false
def dmk (P:Program) (o:Oper) (st:Ac T):M (Ac T):=match o.op,o.dst with
 | .makeSlice _ _ _,some d=>wt P o st d
 | .buildSlice _ _ ps,some d=>match EZ st [] ps.toList with
   | some vs=>A_ (Qj vs) (wt P o st d)
   | none=> .no
 | _,_=> .no
theorem Vb {place:Nat->Option (Nat×Nat)}: ∀ {qs:List (Nat×Value)} {arr out:Array Value},Instr.fill place arr qs=some out->(∀ v∈arr.toList,(B3 v).isSome =true)->(∀ q∈qs, ∀ v∈q.2.cells.toList,(B3 v).isSome =true)-> ∀ v∈out.toList,(B3 v).isSome =true
 | [],arr,out,h,ha,_=>by simp only [Instr.fill,injEq]at h;subst h;exact ha
 | (i,v)::r,arr,out,h,ha,hq=>by
   simp only [Instr.fill]at h;split at h
   ·cases h
   ·rename_i off size hp;split at h
    ·cases h
    ·rename_i hb;refine Vb h (fun u hu=>?_) (fun q hq'=>hq q (by simp [hq']));have e:=PH v.cells.toList off 0 arr (by simp at hb ⊢;omega);rw [<-Array.foldl_toList,Array.toList_zipIdx,e]at hu;rcases mem_append.1 hu with hu | hu
     ·rcases mem_append.1 hu with hu | hu
      ·exact ha u (List.mem_of_mem_take hu)
      ·exact hq (i,v) (by simp) u hu
     ·exact ha u (List.mem_of_mem_drop hu)
theorem jl {w:World} {G:Ax} {c:DC T} {v:Value} (h:jk c=true) (hr:Ab w G c.toC v):(B3 v).isSome =true:=by
 unfold jk at h;split at h
 ·cases h
 ·rename_i kd x _;cases kd<;>simp only [DC.toC,AW,Ab]at hr<;>first | (subst hr;rfl) | (rename_i n_;exact(n_ _ _ rfl).elim) | grind
 ·simp only [DC.toC,Ab]at hr;subst hr;rfl
 ·cases h
theorem eF {w:World} {G:Ax}: ∀ {cs:List (DC T)} {vs:List Value},wv cs=true->Ae w G (Ap cs) vs-> ∀ v∈vs,(B3 v).isSome =true
 | [],[],_,_,v,hv=>by cases hv
 | [],_::_,_,h,_,_=>by simp [Ap,Ae]at h
 | _::_,[],_,h,_,_=>by simp [Ap,Ae]at h
 | c::cs,u::us,hd,h,v,hv=>by
   simp only [wv,and_eq_true]at hd;simp only [Ap,Ae]at h;rcases mem_cons.1 hv with rfl | hv
   ·exact jl hd.1 h.1
   ·exact eF hd.2 h.2 v hv
theorem RB {w:World} {G:Ax}: ∀ {ps:List (Nat×DV T)} {qs:List (Nat×Value)},Qj ps=true->KH w G (dQ ps) qs-> ∀ q∈qs, ∀ v∈q.2.cells.toList,(B3 v).isSome =true
 | [],[],_,_,q,hq=>by cases hq
 | [],_::_,_,h,_,_=>by simp [dQ,KH]at h
 | (i,x)::ps,[],_,h,_,_=>by simp [dQ,KH]at h
 | (i,x)::ps,(j,u)::qs,hc,h,q,hq=>by
   simp only [dQ,map_cons,KH]at h;cases x with
   | agg cs=>
     simp only [Qj,and_eq_true]at hc;rcases mem_cons.1 hq with rfl | hq
     ·simp only [DV.toV,Aa]at h;obtain⟨_,⟨arr,rfl,h2⟩,_⟩:=h;exact eF hc.1 h2
     ·exact RB (ps:=ps) hc.2 h.2.2 q hq
   | _=>simp [Qj]at hc
def MkC (P:Program) (st:St) (o:Oper):Prop:= ∀ (F:Fr) (a:Act) (w:World) (G:Ax),R F st a w G->(ef P st o).1-> ∃ len cap w0,(execOp a.eval o).run P w= .ok (.value (.slice (some ⟨w.heap.size,0,none⟩) len cap)) w0/\ ∀ k v,w0.cell? ⟨w.heap.size,k,none⟩=some v->(B3 v).isSome =true
theorem rJ {P:Program} {st:St} {o:Oper} {t:TypeId} {lo co:Operand} {d:Nat} (hop:o.op= .makeSlice t lo co) (hd:o.dst=some d):MkC P st o:=by
 intro F a w G hR e1;have afT:(HQ P st d t (st.arg true lo).2 (st.arg true co).2).1/\(st.arg true lo).1/\(st.arg true co).1:=by grind [ef]
 have hx:=hR.arg rfl afT.2.1;have hy:=hR.arg rfl afT.2.2;obtain⟨r0,w0,G0,m1,_⟩:=QX (d:=d) hR hx hy afT.1;obtain⟨len,cap,rfl,T_⟩:=eE hx hy afT.1 m1;exact⟨len,cap,w0,by simp [execOp,hop,m1],T_⟩
theorem oO {H:Aq T} {P:Program} {st:Ac T} (hw:Ay H st) {o:Oper} {t:TypeId} {len:Nat} {ps:Array (Nat×Operand)} {d:Nat} {vs:List (Nat×DV T)} (hop:o.op= .buildSlice t len ps) (hd:o.dst=some d) (hp:EZ st [] ps.toList=some vs) (hc:Qj vs=true):MkC P st.toSt o:=by
 intro F a w G hR e1;have hs:(AS P st.toSt d t len ps.toList).1:=by obtain⟨dst,op,ty,pos,aft,gd⟩:=o;simp only at hop hd;subst hop hd;exact e1
 unfold AS at hs;split at hs
 ·rename_i E n by' R_;split at hs
  ·rename_i z hz;split at hs
   ·rename_i cs hf;obtain⟨h1,h2,h3,h4⟩:=hs;obtain⟨i,zv,hu,hi,hzv,Tr,hby,hzs⟩:=Bh R_;obtain⟨i',zv',M_,Tq,hcz⟩:=EQ hz;rw [hi]at M_;injection M_ with M_;subst M_;rw [hzv]at Tq;injection Tq with Tq;subst Tq;have hzr:=IT (DW (w:=w) (G:=G) hcz) (by omega) len;obtain⟨Q_,q1,q2⟩:=GT hf (LX (hR.parts rfl h1)) hzr;have q1':Instr.fill (fun i=>some (i*n,n)) ((Array.range (len*n)).map (zv.cells[· % zv.cells.size]!)) (ps.map fun(i,x)=>(i,a.eval x)).toList =some Q_:=by simp_all
    have hrp:KH w G (dQ vs) (ps.map fun(i,x)=>(i,a.eval x)).toList :=by obtain⟨_,_,p3⟩:=Ec (key:=[]) hw (fun _ hl=>by cases hl) rfl hp;change (st.toSt.parts true ps.toList).2=dQ vs at p3;have:=hR.parts rfl h1;rw [p3]at this;rw [Array.toList_map];exact this
    have hz0:0<zv.cells.size:=by grind
    have abg:=ND hcz;have hconst:=Vb q1' (fun v hv=>by simp only [Array.toList_map,Array.toList_range,mem_map,List.mem_range]at hv;obtain⟨k,_,rfl⟩:=hv;have Tw:k % zv.cells.size<zv.cells.size:=Nat.mod_lt _ hz0;rw [getElem!_pos zv.cells _ Tw];exact abg _ (by simp)) (RB hc hrp)
    have h_:=aaj (P:=P) (w:=w) (ps:=ps.map fun(i,x)=>(i,a.eval x)) hu hi hzv Tr h3 h4 q1';refine⟨len,len,w.alloc (.cells Q_ E),by simp [execOp,hop,h_],fun k v hv=>?_⟩;have aah:Q_[k]? =some v:=by simp_all
    exact hconst v (by grind)
   ·exact hs.elim
  ·exact hs.elim
 ·exact hs.elim
theorem ml {H:Aq T} {P:Program} {I:World->Prop} {st:Ac T} (hw:Ay H st) {o:Oper} {d:Nat} (hd:o.dst=some d) (hmk:MkC P st.toSt o):Yl (wt P o st d) (fun an=>(∃ H',Nx H st H' an)/\an.pre=st.pre/\ ∀ K:St->Prop,K an.toSt->El P I o st.toSt K):=by
 unfold wt
 ·refine Yl.y_ (SG hw o) fun st1 h1=>?_;obtain⟨⟨H1,n1⟩,e1,e2,p1⟩:=h1;refine Yl.y_ (rH n1.ok) fun st2 h2=>?_;obtain⟨⟨H2,n2⟩,p2,w2⟩:=h2;split
  ·rename_i id hg;split
   ·rename_i E nn l hdr;refine Yl.A_ fun hb=>Yl.opt fun u hu=>Yl.ret ?_;simp only [and_eq_true,Nat.blt_eq]at hb;obtain⟨hb1,hb2,hb3⟩:=hb;have hnn:=oN hb3;subst hnn;have hlen:0<l.length:=BK hu;have hp:(Io.abK id)=C4 id:=funext fun i=>HZ id i;rw [hp];obtain⟨⟨H3,n3⟩,k1,k2,k3,k4,k5⟩:=Ac.aaB n2.ok (C4 id);obtain⟨H4,n4⟩:=Ac.aab n3.ok id (x:= .deep E (List.length l:Nat) l none) trivial;refine⟨⟨H4,((n1.trans n2).trans n3).trans n4⟩,by show (st2.s_ (C4 id)).pre =st.pre;grind,fun K hK F a w G Q hI hR=>?_⟩;obtain⟨len,cap,w0,h_,T_⟩:=hmk F a w G hR e1;obtain⟨nx,w',G1,q1,q2⟩:=(NZ hR e1).out;rw [h_]at q1;injection q1 with q1 q1';subst q1 q1';have hR1:R F st1.toSt (a.put (some d) (.slice (some ⟨w.heap.size,0,none⟩) len cap)) w0 G1:=by
     rcases q2 with ⟨v,e,q⟩ | ⟨e,_⟩
     ·injection e with e;subst e;rw [hd]at q;exact q.less e2
     ·cases e
    obtain⟨G2,hR2⟩:=w2 _ _ _ _ hR1;have hsl:Aa w0 G2 (st2.toSt.get d) ((a.put (some d) (.slice (some ⟨w.heap.size,0,none⟩) len cap)).tmps.getD d Go.undef):=hR2.slots d;rw [st2.aaa d,hg]at hsl;have Tr:d<a.tmps.size:=by have:=hR2.size;simp only [Act.put,Array.size_setIfInBounds]at this;rw [this];show d<(Aw st2.m st2.tm).length;rw [A7];exact hb2
    have hpv:(a.put (some d) (.slice (some ⟨w.heap.size,0,none⟩) len cap)).tmps.getD d Go.undef= .slice (some ⟨w.heap.size,0,none⟩) len cap:=by simp_all [Act.put]
    rw [hpv]at hsl;simp only [DV.toV,DC.toC,Aa,Ab]at hsl;obtain⟨atZ,hlr,e,he1,he2,he3⟩:=Br hdr;have hE:e.toE=⟨id,some (E,T.sz E,l.length),l.flatMap (T.enc E),true⟩:=by simp_all [DE.toE,A2,U6]
    have hm:e.toE∈st2.toSt.so:=mem_map.2 ⟨e,he1,rfl⟩;have hL:st2.toSt.u_ id=some e.toE:=hR2.v_ hm (by rw [hE]) hb1;have aad:G2.blk id=some w.heap.size:=by have hS:=hR2.store _ hm;grind [AN]
    obtain⟨E1,n1',aeK,v1,aax,adZ,g1,g2,g3,g4,g5,g6,g7,g8,g9⟩:=hR2.abv hL aad;rw [hE]at g9;obtain⟨us,r1,r2⟩:=g9.list;obtain⟨G3,hR3,z_⟩:=hR2.af_ hL (Tk:=Av T E (List.length l:Nat) 0 l) (by grind [Hb]) (Ot l 0) aad (fun k c hk=>by
     rw [hE];rcases Va (by omega) hk with ⟨F1,m,cs,z1,z2⟩ | z
     ·right;obtain⟨v,y1,y2⟩:=ZZ r1 z2;have aah:=r2 k v y1;rw [zero_add]at aah;grind [zS]
     grind)
    have adz:B0 (st2.toSt.a_ (C4 id) ((st2.toSt.so.map (Ar.a_ (C4 id))).map (C_ id e.toE.row (Av T E (List.length l:Nat) 0 l)))) ((st2.s_ (C4 id)).aaf id (.deep E (List.length l:Nat) l none)).toSt :=by
     refine H5 ?_ ?_ ?_ (DR n4.ok) ?_
     ·exact k1
     ·exact k2
     ·intro z hz;simp only [St.a_,mem_map];obtain⟨e3,h1,rfl⟩:=mem_map.1 hz;rcases aaz n3.ok.nd h1 with ⟨h1,h2⟩ | h1
      ·obtain⟨d3,h3,h4,h5⟩:=Yv n2.ok (mem_map.2 ⟨e3,h1,rfl⟩);have aoJ:d3.id ≠ id:=by grind [Ar.j_,DE.toE_id]
       refine⟨d3.a_ (C4 id),⟨d3,h3,rfl⟩,?_⟩;grind [C2,Ar.j_]
      ·subst h1;refine⟨e.toE.a_ (C4 id),⟨e.toE,hm,rfl⟩,?_⟩;rw [C3 (by rw [Ar.j_,hE]),Ar.j_,Ar.acD,hE];rfl
     ·show (st2.s_ (C4 id)).pre =st2.pre;exact k4
    unfold Oper.wp;rw [h_];refine⟨_,G3,hK,?_⟩;rw [hd];exact hR3.less adz
   ·exact Yl.no
  ·exact Yl.no
theorem zU {H:Aq T} {P:Program} {I:World->Prop} {st:Ac T} (hw:Ay H st) {o:Oper}:Yl (dmk P o st) (fun an=>(∃ H',Nx H st H' an)/\an.pre=st.pre/\ ∀ K:St->Prop,K an.toSt->El P I o st.toSt K):=by
 unfold dmk;split
 ·rename_i hop hd;exact ml hw hd (rJ hop hd)
 ·rename_i hop hd;split
  ·rename_i hp;exact Yl.A_ fun hc=>ml hw hd (oO hw hop hd hp hc)
  ·exact Yl.no
 ·exact Yl.no
end Go.PL
namespace Go.PL
open Go Go.RowKit
variable {T:AX}
def Hm (c:DC T):(ks:List Kd)->DK T.den ks->Nat->Option (DK T.den ks)
 | .int k::_,y,0=>match Fz false (.int k) c with
   | some x=>some (x,y.2)
   | none=>none
 | .bool ::_,y,0=>match Fz false .bool c with
   | some x=>some (x,y.2)
   | none=>none
 | .str ::_,y,0=>match Fz false .str c with
   | some x=>some (x,y.2)
   | none=>none
 | _::ks,y,p+1=>match Hm c ks y.2 p with
   | some z=>some (y.1,z)
   | none=>none
 | _,_,_=>none
theorem Lj {c:DC T}: ∀ {ks:List Kd} {y z:DK T.den ks} {p:Nat},Hm c ks y p=some z->
 Bj T ks z=(Bj T ks y).set p c.toC/\Bd T.enc ks z=(Bd T.enc ks y).set p c.toC/\p<ks.length/\c.toC.pure=true/\hZ c.toC=true
 | [],_,_,_,h=>by simp [Hm]at h
 | .w_ F'::ks,y,z,0,h=>by simp [Hm]at h
 | .int k::ks,y,z,0,h=>by
   simp only [Hm]at h;split at h
   ·rename_i x hx;injection h with h;subst h;have:=(BP hx).2 rfl;rw [this];exact⟨rfl,rfl,by simp,rfl,rfl⟩
   ·cases h
 | .bool ::ks,y,z,0,h=>by
   simp only [Hm]at h;split at h
   ·rename_i x hx;injection h with h;subst h;have:=(BP hx).2 rfl;rw [this];exact⟨rfl,rfl,by simp,rfl,rfl⟩
   ·cases h
 | .str ::ks,y,z,0,h=>by
   simp only [Hm]at h;split at h
   ·rename_i x hx;injection h with h;subst h;have:=(BP hx).2 rfl;rw [this];exact⟨rfl,rfl,by simp,rfl,rfl⟩
   ·cases h
 | k::ks,y,z,p+1,h=>by
   have h:(match Hm c ks y.2 p with | some z=>some ((y.1,z):L5 T.den k×DK T.den ks) | none=>none)=some z:=by cases k<;>simpa only [Hm] using h
   split at h
   ·rename_i z' hz;injection h with h;subst h;obtain⟨a,b,d,e,f⟩:=Lj hz;exact⟨by simp only [Bj,set_cons_succ];rw [a],by simp only [Bd,set_cons_succ];rw [b],by simp;omega,e,f⟩
   ·cases h
theorem RC {E:Nat} {n:Int} {c:C} {p:Nat} {x':T.den E}: ∀ {l:List (T.den E)} {k:Int} {i:Nat} {x:T.den E},l[i]? =some x->T.Z_ E x'=(T.Z_ E x).set p c->T.enc E x'=(T.enc E x).set p c->p<T.sz E->(Av T E n k l).set (i*T.sz E+p) c=Av T E n k (l.set i x')
 | [],_,_,_,h,_,_,_=>by simp at h
 | y::l,k,0,x,h,hx,hx2,hp=>by
   simp only [getElem?_cons_zero,injEq]at h;subst h;rw [List.set_cons_zero,Av,Av,Nat.zero_mul,zero_add];by_cases hk:k<n
   all_goals simp_all [Df,if_neg,AG]
 | y::l,k,i+1,x,h,hx,hx2,hp=>by
   have hl:(if k<n then T.Z_ E y else T.enc E y).length =T.sz E:=by grind [Df,AG]
   rw [set_cons_succ,Av,Av,List.set_append_right _ _ (by rw [hl,add_mul,one_mul];omega),hl,show (i+1)*T.sz E+p - T.sz E=i*T.sz E+p by rw [add_mul,one_mul];omega];rw [RC (by simpa using h) hx hx2 hp]
def B2 (P:Program) (o:Oper) (st:Ac T):M (Ac T):=match o.op with
 | .store t x y=>match o.dst,st.arg [] x,st.arg [] y,FW P t with
   | none,some (.c (.rp id N i off)),some (.c c),some (false,1)=>match G9 st id with
     | some ⟨E,(nn,l,none)⟩=>A_ (DF id&&Nat.beq N (T.sz E)) (.opt (idx l i) fun x=>
      match Hm c (T.ks E) (T.un E x) off with
      | some z=> .ret (st.aaf id (.deep E nn (l.set i.toNat (T.bd E z)) none))
      | none=> .no)
     | _=> .no
   | _,_,_,_=> .no
 | _=> .no
theorem zV {H:Aq T} {P:Program} {I:World->Prop} {st:Ac T} (hw:Ay H st) {o:Oper}:Yl (B2 P o st) (fun an=>(∃ H',Nx H st H' an)/\an.pre=st.pre/\ ∀ K:St->Prop,K an.toSt->El P I o st.toSt K):=by
 unfold B2;split
 ·rename_i t x y hop;split
  ·rename_i id N i off c hd hx hy ht;split
   ·rename_i E nn l hdr;refine Yl.A_ fun hg=>Yl.opt fun xx hxx=>?_;simp only [and_eq_true,beq_eq]at hg;obtain⟨g1,g2⟩:=hg;subst g2;split
    ·rename_i z hz;obtain⟨i0,i1,hxi⟩:=Gb hxx;obtain⟨a1,a2,a3⟩:=E3 hw hx;obtain⟨b1,b2,b3⟩:=E3 hw hy;obtain⟨hmk,hlr,e,he1,he2,he3⟩:=Br hdr;obtain⟨z1,z2,aaC,z3,z4⟩:=Lj hz;have hE:e.toE=⟨id,some (E,T.sz E,l.length),Av T E nn 0 l,true⟩:=by unfold DE.toE;rw [he3,he2];rfl
     have aeS:T.Z_ E (T.bd E z)=(T.Z_ E xx).set off c.toC:=by rw [AX.Z_,T.ab7,z1];rfl
     have aoS:T.enc E (T.bd E z)=(T.enc E xx).set off c.toC:=by rw [<-T.V_,T.ab7,z2,T.V_]
     have ac8:=RC (n:=nn) (k:=0) (x':=T.bd E z) (c:=c.toC) (p:=off) hxi aeS aoS aaC;obtain⟨H2,n2⟩:=Ac.aab hw id (x:= .deep E nn (l.set i.toNat (T.bd E z)) none) trivial;refine Yl.ret ⟨⟨H2,n2⟩,rfl,fun K hK Fr a w G Q hI hR=>?_⟩;have hm:e.toE∈st.toSt.so:=mem_map.2 ⟨e,he1,rfl⟩;have hL:st.toSt.u_ id=some e.toE:=hR.v_ hm (by rw [hE]) g1;have H_:=hR.arg rfl a2;rw [a3]at H_;simp only [DV.toV,DC.toC,Aa,Ab]at H_;obtain⟨b,hb1,hv⟩:=H_;have hyv:=hR.arg rfl b2;rw [b3]at hyv;simp only [DV.toV,Aa]at hyv;have aa3:=hyv.one;have hcl:(a.eval y).cells.toList =[a.eval y]:=by cases hq:a.eval y<;>rw [hq]at aa3<;>first | rfl | cases aa3
     have hc:Ae w G [c.toC] (a.eval y).cells.toList :=by rw [hcl];exact⟨hyv,trivial⟩
     have hlen:e.toE.cs.length=l.length*T.sz E:=by grind [Hb]
     have alM:off<T.sz E:=aaC;have hk:i.toNat*T.sz E+off<e.toE.cs.length:=by rw [hlen];have:(i.toNat+1)*T.sz E<=l.length*T.sz E:=mul_le_mul_right _ (by omega);grind
     obtain⟨cur,T',c1,c2,c3⟩:=hR.aa6 hL hb1 (off:=i.toNat*T.sz E+off) hc (by simp;omega) (by simp [Al,z3]) (by simp [z4]);have hs:=Db (P:=P) ht c1 (by grind) c2 (Ae.one hc);generalize w.setRow b _=w1 at hs c3;have h_:(execOp a.eval o).run P w= .ok .skip w1:=by simp_all [execOp]
     refine DY h_ ?_;rw [hd];refine⟨_,G,hK,c3.less ?_⟩;refine H5 (Gz.refl _) (Gz.refl _) ?_ (DR n2.ok) rfl;intro u hu;obtain⟨e3,h1,rfl⟩:=mem_map.1 hu;rcases aaz hw.nd h1 with ⟨h1,h2⟩ | h1
     ·exact mem_map.2 ⟨e3.toE,mem_map.2 ⟨e3,h1,rfl⟩,(by grind [C2,DE.toE_id])⟩
     ·subst h1;refine mem_map.2 ⟨e.toE,hm,?_⟩;rw [C3 (by rw [hE])];show _=(⟨id,some (E,T.sz E,(l.set i.toNat (T.bd E z)).length),Av T E nn 0 (l.set i.toNat (T.bd E z)),true⟩:Ar);simp only [hE,length_set];simp_all [List.set_eq_take_append_cons_drop]
    ·exact Yl.no
   ·exact Yl.no
  ·exact Yl.no
 ·exact Yl.no
def dug (ks:List Nat) (st:Ac T):Ac T:=match st.gh with
 | []=>st
 | (m,tm)::r=>{st with gh:=(m,E6 ks tm)::r}
theorem zW {H:Aq T} {st:Ac T} (hw:Ay H st) (ks:List Nat):(∃ H',Nx H st H' (dug ks st))/\(dug ks st).pre =st.pre/\Wk st.toSt (dug ks st).toSt :=by
 unfold dug;split
 ·exact⟨⟨H,Nx.refl hw⟩,rfl,Wk.less (B0.refl _)⟩
 ·rename_i m tm r hg;have hn:Nx H st H {st with gh:=(m,E6 ks tm)::r}:=⟨Ch.refl _ _,le_refl _,hw.tm,fun f hf=>by
   rcases mem_cons.1 hf with rfl | hf
   ·exact fun s t v hm=>hw.gh (m,tm) (by grind) s t v (JF hm)
   ·exact hw.gh f (by grind),hw.so,hw.nd⟩
  refine⟨⟨H,hn⟩,rfl,Wk.less (H5 (Gz.refl _) ?_ (fun _ h=>h) (DR hn.ok) rfl)⟩;show Gz (st.gh.flatMap fun f=>Aw f.1 f.2) (((m,E6 ks tm)::r).flatMap fun f=>Aw f.1 f.2);rw [hg,flatMap_cons,flatMap_cons];refine Gz.append ?_ (Gz.refl _);unfold Aw;refine Gz.map fun i _=>?_;rw [L8];split
  ·grind
  ·exact .inl rfl
end Go.PL
