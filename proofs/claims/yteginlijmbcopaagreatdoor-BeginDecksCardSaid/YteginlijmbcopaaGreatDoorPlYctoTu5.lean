/- The pure logic: PlYc, PlYd, PlYe, PlYf, PlYg, Tj, Tk, Tl, Tm, Tn, To, Tt, Tu, Tu2, Tu3, Tu4, Tu5. -/
import Derived.Test.YteginlijmbcopaaGreatDoorPlPftoPlYb
import Derived.OrdersHeld
import Derived.Test.YteginlijmbcopaaGreatDoorPlRtoPlPe
open Option.some (injEq)
open Bool (and_eq_true or_eq_true not_eq_true')
open List (mem_map map_cons mem_cons nil_append all_cons flatMap_cons cons_append append_assoc all_eq_true mem_singleton nodup_cons mem_range append_nil length_append flatMap_append all_nil map_map mem_filter)
open Nat (beq_eq eq_of_beq_eq_true le_succ add_mul le_refl mul_le_mul_right zero_add blt_eq one_mul add_zero)
open Option (getD_none getD_some)
open Int (toNat_natCast)
set_option linter.all false
set_option linter.all false
namespace Go.PL
open Go Go.RowKit
def OE.frz (o:OE):List C:=match o.dp with
 | true=>o.cs.map Py
 | false=>o.cs
def PC.frz (outs:List OE):PC->C
 | .c x=>x
 | .o j=>match outs[j]? with
   | some q=> .sl q.len q.frz
   | none=> .any
def PP.frz (outs:List OE):PP->V
 | .c x=> .c (x.frz outs)
 | .a cs=> .agg (cs.map (PC.frz outs))
def rI (outs:List OE):List PP->V
 | [p]=>p.frz outs
 | ps=> .tup (ps.map (PP.frz outs))
section
variable {w:World} {G:AF} {av:Nat->Prop}
theorem cS: ∀ {cs:List C} {b o:Nat},Al w G cs b o-> ∀ k c,cs[k]? =some c-> ∃ v,w.cell? ⟨b,o+k,none⟩=some v/\Ae w G c v
 | [],_,_,_,k,c,h=>by simp at h
 | d::cs,b,o,hr,k,c,h=>by
   simp only [Al]at hr;cases k with
   | zero=>simp only [List.getElem?_cons_zero,injEq]at h;subst h;simpa using hr.1
   | succ k=>
     have:=cS hr.2 k c (by simpa using h);rw [show o+(k+1)=o+1+k by omega];exact this
theorem XO (afW: ∀ b,b<w.heap.size->av b->G.wr b) (hb: ∀ i b,G.o_ i=some b-> ¬av b) (hlt: ∀ i b,G.o_ i=some b->b<w.heap.size) {i:Ah} {E:TypeId} {n len:Nat} {cs ds:List C} {v:Value} (hE:Ba w G ⟨i,some (E,n,len),cs,true⟩) (hv:G.own i=some v)
 (hd:Am ds=true) (hl:ds.length=cs.length) (A_: ∀ b,G.o_ i=some b->Al w G cs b 0->Al w (im av) ds b 0):Ae w (im av) (.sl len ds) v:=by
 unfold Ba at hE;obtain⟨h0,v',h1,h2⟩:=hE;rw [hv]at h1;injection h1 with h1;subst h1;simp only [Ae];refine⟨hd,?_⟩;rcases h2 with ⟨p,rfl,rfl,_⟩ | ⟨b,cap,cur,rfl,e2,e3,e4,e5,e6,e7⟩
 ·grind
 ·refine⟨_,cap,rfl,e4,e5,(by grind [List.length_eq_zero_iff]), .inr ⟨b,0,rfl,hb i b e2,hlt i b e2,A_ b e2 e7⟩⟩
theorem Aes (afW: ∀ b,b<w.heap.size->av b->G.wr b) (hb: ∀ i b,G.o_ i=some b-> ¬av b) (hlt: ∀ i b,G.o_ i=some b->b<w.heap.size) {o:OE} {i:Ah} {v:Value} (hE:Ba w G (o.ent i)) (hD:By w G (o.ent i)) (hdp:Ep i=o.dp) (hp:Am o.cs=true) (hv:G.own i=some v):Ae w (im av) (.sl o.len o.frz) v:=by
 have hk:Cu G (im av) w w:=Cu.sub afW;have mono: ∀ c u,c.pure=true->Ae w G c u->Ae w (im av) c u:=fun c u hc h=>Ae.mono hk c u (fun i hi=>absurd (show c.p_ i=true from hi) (by rw [Im i c hc];simp)) h;unfold OE.frz;cases hq:o.dp with
 | false=>
   refine XO afW hb hlt hE hv hp rfl fun b _ hr=>?_;exact Al.mono hk _ _ _ (fun i hi=>absurd (show BU i o.cs=true from hi) (by rw [AQ i o.cs hp];simp)) (fun _=>rfl) hr
 | true=>
   obtain⟨_,_,hI⟩:=hD.2 (by show Ep i=true;rw [hdp,hq]);have pf:Am (o.cs.map Py)=true:=by rw [Cn,all_eq_true]at hp ⊢;intro c hc;obtain⟨d,hd,rfl⟩:=mem_map.1 hc;have:=hp d hd;cases d<;>first | exact this | rfl
   refine XO afW hb hlt hE hv pf (by simp) fun b hbi hr=>xK fun k c hc=>?_;obtain⟨u,u1,u2⟩:=cS hr k c hc;refine⟨u,u1,?_⟩;by_cases axP: ∃ E n len cs,c= .isl E n len cs
   ·obtain⟨E,n,len,cs,rfl⟩:=axP;obtain⟨k1,k2,b',u',k3,k4,k5⟩:=hI k E n len cs hc;have k3:G.o_ i=some b':=k3;rw [hbi]at k3;injection k3 with k3;subst k3;rw [zero_add]at u1;rw [u1]at k4;injection k4 with k4;subst k4;simp only [Py];exact XO afW hb hlt k2 k5 k1 rfl fun b _ hr=>Al.mono hk _ _ _ (fun i hi=>absurd (show BU i cs=true from hi) (by rw [AQ i cs k1];simp)) (fun _=>rfl) hr
   ·have e:Py c=c:=by cases c<;>first | rfl | grind
    grind [Cn]
end
theorem MT.flat {P:Program} {I:World->Prop} {f:FuncId} {args:List V} {outs:List OE} {ps:List PP} (h:MT P I f args outs ps) (aii:(rI outs ps).pure =true):BV P I f args (· =rI outs ps):=by
 refine⟨h.ent,fun w vs av hI hav hr=>(h.run w vs av hI hav hr).mono ?_⟩;rintro e w' ⟨v,ids,G,he,hns,hnd,hv,hE,aqU,hfr,hwr,hb⟩;refine⟨v,_,he,rfl,aii,?_,hb⟩;obtain⟨l1,m1,d1⟩:=JH hns;have afW: ∀ b,b<w'.heap.size->av b->G.wr b:=(by grind);have hbn: ∀ i b,G.o_ i=some b-> ¬av b:=(by grind);have hlt: ∀ i b,G.o_ i=some b->b<w'.heap.size:=(by grind);have hk:Cu G (im av) w' w':=Cu.sub afW;have pc: ∀ (p:PC) (u:Value),p.ok outs.length=true->Ae w' G (p.toC ids) u->Ae w' (im av) (p.frz outs) u:=by
  intro p u hp hu;cases p with
  | c x=>exact Ae.mono hk x u (fun i hi=>absurd (show x.p_ i=true from hi) (by rw [Im i x hp];simp)) hu
  | o j=>
    simp only [PC.ok,blt_eq]at hp;simp only [PC.toC,Ae]at hu;have e1:outs[j]? =some outs[j]:=(by grind);have e2:ids[j]? =some (ids.getD j []):=by grind
    simp only [PC.frz,e1];obtain⟨q1,q2,q3⟩:=hE _ (XN e1 e2);exact Aes afW hbn hlt q1 q2 (d1 j _ _ e1 e2) q3 hu.1
 have pl: ∀ (cs:List PC) (us:List Value),cs.all (PC.ok outs.length)=true->Ai w' G (cs.map (PC.toC ids)) us->Ai w' (im av) (cs.map (PC.frz outs)) us:=by
  intro cs;induction cs with
  | nil=>intro us _ hu;cases us<;>simpa [Ai] using hu
  | cons c cs ih=>
    intro us hc hu;cases us<;>simp_all [Ai]
 have pp: ∀ (p:PP) (u:Value),p.ok outs.length=true->Ab w' G (p.toV ids) u->Ab w' (im av) (p.frz outs) u:=by
  intro p u hp hu;cases p with
  | c x=>simp only [PP.toV,PP.frz,Ab]at hu ⊢;exact pc x u hp hu
  | a cs=>
    simp only [PP.toV,PP.frz,Ab]at hu ⊢;obtain⟨arr,e,hu⟩:=hu;exact⟨arr,e,pl cs _ hp hu⟩
 have pps: ∀ (l:List PP) (us:List Value),l.all (PP.ok outs.length)=true->As w' G (l.map (PP.toV ids)) us->As w' (im av) (l.map (PP.frz outs)) us:=by
  intro l;induction l with
  | nil=>grind [As]
  | cons p l ih=>
    intro us hp hu;simp only [all_cons,and_eq_true]at hp;grind [As]
 have hok:=h.pok
 match ps,hok,hv with
 | [p],hok,hv=>
   simp only [all_cons,all_nil,Bool.and_true]at hok;exact pp p v hok hv
 | [],hok,hv=>
   grind [NW,rI,Ab]
 | p::q::l,hok,hv=>
   grind [NW,rI,Ab]
end Go.PL
set_option linter.all false
namespace Go.PL
open Go Go.RowKit
mutual
theorem cT {p q:Ah->Bool} (h: ∀ i,q i=true->p i=true): ∀ c:C,c.i_ p=false->c.i_ q=false
 | .j_ i,k=>by grind [C.i_]
 | .ptr i _,k=>by grind [C.i_]
 | .rsl i _ _ _,k=>by grind [C.i_]
 | .bsl i _ _,k=>by grind [C.i_]
 | .bld i _,k=>by grind [C.i_]
 | .afo i,k=>by grind [C.i_]
 | .clo _ cs,k=>by simp only [C.i_]at k ⊢;exact F3 h cs k
 | .bmv _ cs,k=>by simp only [C.i_]at k ⊢;exact F3 h cs k
 | .int ..,_=>rfl
 | .bool _,_=>rfl
 | .str _,_=>rfl
 | .sl ..,_=>rfl
 | .aby ..,_=>rfl
 | .ab_,_=>rfl
 | .aag,_=>rfl
 | .L_,_=>rfl
 | .fn _,_=>rfl
 | .held,_=>rfl
 | .any,_=>rfl
 | .afy ..,_=>rfl
 | .mp _,_=>rfl
 | .isl ..,_=>rfl
theorem F3 {p q:Ah->Bool} (h: ∀ i,q i=true->p i=true): ∀ cs:List C,CO p cs=false->CO q cs=false
 | [],_=>rfl
 | c::cs,k=>by simp only [CO,Bool.or_eq_false_iff]at k ⊢;exact⟨cT h c k.1,F3 h cs k.2⟩
end
mutual
theorem F4 {p q:Ah->Bool} (h: ∀ i,q i=true->p i=true): ∀ v:V,v.i_ p=false->v.i_ q=false
 | .c x,k=>by grind [V.i_,cT]
 | .agg cs,k=>by grind [V.i_,F3]
 | .tup vs,k=>by simp only [V.i_]at k ⊢;exact U7 h vs k
 | .g _ v,k=>by simp only [V.i_]at k ⊢;exact F4 h v k
 | .undef,_=>by simp only [V.i_]
theorem U7 {p q:Ah->Bool} (h: ∀ i,q i=true->p i=true): ∀ vs:List V,N9 p vs=false->N9 q vs=false
 | [],_=>by simp only [N9]
 | v::vs,k=>by simp only [N9,Bool.or_eq_false_iff]at k ⊢;exact⟨F4 h v k.1,U7 h vs k.2⟩
end
structure AR where
 k:Nat
 r:Ah
 E:TypeId
 n:Nat
 len:Nat
 cs:List C
def AR.ent (x:AR):Au:=⟨x.r,some (x.E,x.n,x.len),x.cs,true⟩
def Jf (l:List C) (rs:List AR):List C:=rs.foldl (fun l x=>l.set x.k (.isl x.E x.n x.len x.cs)) l
structure cU (p:Ah->Bool) (id:Ah) (ns:List Ah) (new:Au) (A B:St):Prop where
 len:B.tm.length=A.tm.length
 tm: ∀ i,B.tm.getD i .undef = .undef \/(B.tm.getD i .undef =A.tm.getD i .undef /\(A.tm.getD i .undef).i_ p=false)
 ani:B.gh.length=A.gh.length
 gh: ∀ i,B.gh.getD i .undef = .undef \/(B.gh.getD i .undef =A.gh.getD i .undef /\(A.gh.getD i .undef).i_ p=false)
 so: ∀ x∈B.so,x=new\/x∈A.so/\x.id ≠ id/\x.id∉ns/\(x.pu=true\/CO p x.cs=false)
 nd:(B.so.map (·.id)).Nodup
 pre:B.pre=A.pre
section
variable {F:Fr} {a:Act} {w:World}
theorem R.agK {id:Ah} {b:Nat} {p:Ah->Bool}: ∀ (rs:List AR) {st:St} {G:AF} {e:Au},R F st a w G->st.K_ id=some e->G.o_ id=some b->
 (∀ x∈rs,st.look x.r=some x.ent/\x.k<e.cs.length/\(∀ i,pD x.r id i=true->p i=true)/\ ∃ v,w.cell? ⟨b,x.k,none⟩=some v/\G.own x.r=some v)->(rs.map (·.r)).Nodup ->
 ∀ B:St,cU p id (rs.map (·.r)) ⟨id,e.row,Jf e.cs rs,true⟩ st B-> ∃ G',R F B a w G'
 | [],st,G,e,h,hl,hb,_,_,B,hB=>by
   obtain⟨hm,hid,_,_,hpu,_⟩:=h.aaU hl;refine⟨G,h.less ⟨hB.len,fun i=>(hB.tm i).imp (fun q=>q) (fun q=>q.1),fun x hx=>?_,fun _=>hB.nd,⟨hB.ani,fun i=>(hB.gh i).imp (fun q=>q) (fun q=>q.1)⟩,hB.pre⟩⟩;rcases hB.so x hx with rfl | ⟨q,_⟩
   ·have:(⟨id,e.row,Jf e.cs [],true⟩:Au)=e:=by obtain⟨i,r,cs,pu⟩:=e;simp only at hid hpu;subst hid hpu;rfl
    grind
   ·exact q
 | x::rs,st,G,e,h,hl,hb,hx,hnd,B,hB=>by
   simp only [map_cons,nodup_cons]at hnd;obtain⟨x1,x2,x3,v,x4,x5⟩:=hx x (by simp);obtain⟨hm,hid,hd,hmk,hpu,_⟩:=h.aaU hl;obtain⟨hmr,af0⟩:=Bi x1;have akG:=FP x1;have ajv:CM x.r=false:=by rw [<-af0];exact(h.deep _ hmr).1
   have ajt:x.r ≠ id:=(by grind);obtain⟨G1,g1,g2,g3,g4⟩:=h.alA hl x1 rfl rfl hb x4 x5 x2;have ajw: ∀ d∈st.so,d.id ≠ x.r->d.id ≠ id->(d.pu=true\/CO p d.cs=false)->d∈((st.so.filter (fun d=>d.id != x.r)).map (Au.e_ (pD x.r id))).map (Tp id e.row (e.cs.set x.k (.isl x.E x.n x.len x.cs))):=by
    intro d hd' q1 q2 q3;refine mem_map.2 ⟨d,mem_map.2 ⟨d,(by grind),?_⟩,El q2⟩;obtain⟨i,r,cs,pu⟩:=d;cases pu with
    | true=>rfl
    | false=>
      rcases q3 with q3 | q3
      ·cases q3
      ·have:=F3 x3 cs q3;simp only [Au.e_,Au.mk.injEq,true_and,and_true];have key: ∀ l:List C,CO (pD x.r id) l=false->l.map (Cy (pD x.r id))=l:=by intro l;induction l<;>simp_all [CO,Cy]
       grind
   have hL1:(st.e_ (pD x.r id) (((st.so.filter (fun d=>d.id != x.r)).map (Au.e_ (pD x.r id))).map (Tp id e.row (e.cs.set x.k (.isl x.E x.n x.len x.cs))))).K_ id=some ⟨id,e.row,e.cs.set x.k (.isl x.E x.n x.len x.cs),true⟩:=by
    refine g1.M_ ?_ rfl hd;refine mem_map.2 ⟨e,mem_map.2 ⟨e,(by grind),?_⟩,?_⟩
    ·obtain⟨i,r,cs,pu⟩:=e;simp only at hpu;subst hpu;rfl
    ·rw [Em hid,hid,hpu];rfl
   refine R.agK (p:=p) rs g1 hL1 (g3.trans hb) (fun y hy=>?_) hnd.2 B ?_
   ·obtain⟨y1,y2,y3,v',y4,y5⟩:=hx y (by simp [hy]);obtain⟨hmy,axR⟩:=Bi y1;have hyr:y.r ≠ x.r:=(by grind);have hyd:=FP y1;have axh:y.r ≠ id:=(by grind);refine⟨g1.ads (ajw _ hmy hyr axh (.inl rfl)) rfl hyd rfl,by grind,y3,v',y4,?_⟩;have hpf:pD x.r id y.r=false:=by
     have aE2:CM y.r=false:=by rw [<-axR];exact(h.deep _ hmy).1
     grind [pD,FD]
    grind
   ·refine⟨by simp [St.e_,hB.len],fun i=>?_,by simp [St.e_,hB.ani],fun i=>?_,fun z hz=>?_,hB.nd,hB.pre⟩
    ·rcases hB.tm i with q | ⟨q1,q2⟩
     ·exact .inl q
     ·right;simp only [St.e_];rw [Gl (by simp [Bz,V.i_])];have:=F4 x3 _ q2;rw [show Bz (pD x.r id) (st.tm.getD i .undef)=st.tm.getD i .undef from if_neg (by rw [this];exact Bool.false_ne_true)];grind
    ·rcases hB.gh i with q | ⟨q1,q2⟩
     ·exact .inl q
     ·right;simp only [St.e_];have e1:(st.gh.map (Bz (pD x.r id))).getD i .undef =Bz (pD x.r id) (st.gh.getD i .undef):=by grind [Bz]
      have:=F4 x3 _ q2;rw [e1,show Bz (pD x.r id) (st.gh.getD i .undef)=st.gh.getD i .undef from if_neg (by rw [this];exact Bool.false_ne_true)];grind
    ·rcases hB.so z hz with q | ⟨q1,q2,q3,q4⟩
     ·grind [Jf]
     ·right;simp only [map_cons,mem_cons,not_or]at q3;exact⟨ajw z q1 q3.1 q2 q4,q2,q3.2,q4⟩
end
end Go.PL
namespace Go.PL
open Go Go.RowKit
def Om:Op->Bool
 | .move _=>true
 | .nilCheck _=>true
 | .fieldAddr .. =>true
 | .indexAddr .. =>true
 | .unOp .. =>true
 | .extract .. =>true
 | _=>false
theorem rJ {P:Program} {F:Fr} {st:St} {a:Act} {w:World} {G:AF} (h:R F st a w G) {g:Bool} (hg:g=true) {o:Oper} (hA:Om o.op=true) (hs:(rd P st g o.op).1):
 ∃ v,Ab w G (rd P st g o.op).2 v/\ ∀ w',(execOp a.eval o).run P w'= .ok (.value v) w':=by
 cases ho:o.op<;>simp only [rd,ho,Q_]at hs ⊢ <;>try (first | exact hs.elim | (rw [ho]at hA;cases hA;done))
 case move x=>exact⟨_,h.arg hg hs,fun w'=>by simp [execOp,ho]⟩
 case nilCheck x=>
  obtain⟨h1,h2⟩:=hs;have hx:=h.arg hg h1;unfold Z6 at h2 ⊢;split at h2
  ·rename_i id off e;rw [e]at hx;simp only [Ab,Ae]at hx ⊢;obtain⟨b,hb,hv⟩:=hx;exact⟨_,⟨b,hb,rfl⟩,fun w'=>by simp [execOp,ho,hv]⟩
  ·rename_i cs off e;rw [e]at hx;simp only [Ab,Ae]at hx ⊢;obtain⟨hp,b,o',hv,k1⟩:=hx;exact⟨_,⟨hp,b,o',rfl,k1⟩,fun w'=>by simp [execOp,ho,hv]⟩
  ·rename_i f e;rw [e]at hx;simp only [Ab,Ae]at hx ⊢;exact⟨_,rfl,fun w'=>by simp [execOp,ho,hx]⟩
  ·rename_i f cs e;rw [e]at hx;simp only [Ab,Ae]at hx ⊢;obtain⟨arr,hv,hr⟩:=hx;exact⟨_,⟨arr,rfl,hr⟩,fun w'=>by simp [execOp,ho,hv]⟩
  ·rename_i f cs e;rw [e]at hx;simp only [Ab,Ae]at hx ⊢;obtain⟨arr,hv,hr⟩:=hx;exact⟨_,⟨arr,rfl,hr⟩,fun w'=>by simp [execOp,ho,hv]⟩
  grind
 case unOp op t x=>
  obtain⟨v,q1,q2⟩:=bO (P:=P) (h.arg hg hs.1) hs.2;simp_all [execOp]
 case extract x i=>
  obtain⟨h1,h2⟩:=hs;have hx:=h.arg hg h1;unfold mr at h2 ⊢;split at h2
  ·rename_i vs e;rw [e]at hx;simp only [Ab]at hx;obtain⟨arr,hv,hr⟩:=hx;obtain⟨v,q1,q2⟩:=JA hr i h2;simp_all [execOp,Instr.extract]
  grind
 case fieldAddr s x f=>
  obtain⟨v,q1,q2⟩:=L2 (P:=P) (h.arg hg hs.1) hs.2;simp_all [execOp]
 case indexAddr t x i=>
  obtain⟨v,q1,q2⟩:=L3 (P:=P) h (h.arg hg hs.1) (h.arg hg hs.2.1) hs.2.2;simp_all [execOp]
theorem nm {P:Program} {F:Fr} {st:St} {a:Act} {w:World} {G:AF} (h:R F st a w G) {g:Bool} (hg:g=true) {o:Oper} (hA:Om o.op=true) (hs:(D7 P st g o.op).1):
 ∃ v,Ab w G (D7 P st g o.op).2 v/\ ∀ w',(execOp a.eval o).run P w'= .ok (.value v) w':=by
 have e:D7 P st g o.op=rd P st g o.op:=by
  cases ho:o.op<;>first
   | rfl
   | (rw [ho]at hA;cases hA)
 grind [rJ]
def DZ (o:Oper):Nat:=match o.guard,o.dst with
 | none,some _=>match Om o.op with
   | true=>2
   | false=>match o.op with
     | .load .. =>1
     | .slice .. =>1
     | _=>0
 | _,_=>0
def Oo (ops:Array Oper) (i:Nat):Nat:=match ops[i]? with
 | some o=>DZ o
 | none=>0
def rK (P:Program) (z:Prop) (o:Oper) (a:Act) (w:World):Prop:=
 ∀ d,o.dst=some d-> ∃ u,(z\/u=a.tmps.getD d Go.undef)/\ ∀ w',(DZ o=2\/C6 w w')->(execOp a.eval o).run P w'= .ok (.value u) w'
def Frc (ops:Array Oper) (pr:List (List Nat)) (i:Nat) (L:Array Bool):Prop:= ∃ k,L.getD k false=true/\Oo ops k=0/\i∈pr.getD k []
def PB (ops:Array Oper) (lz:List Nat):Bool:=lz.all fun p=>match ops[p]? with
 | some o=>Nat.beq (DZ o) 1&&match o.dst with
   | some d=>(List.range ops.size).all fun k=>Nat.beq k p||match ops[k]? with
     | some ok=>(Nat.beq (DZ ok) 0|| !(ok.looksAt ops).contains d)&&match ok.dst with
       | some e=> !Nat.beq e d
       | none=>true
     | none=>true
   | none=>false
 | none=>false
def Z3 (P:Program) (ops:Array Oper) (pr:List (List Nat)) (lz:List Nat) (L:Array Bool) (a:Act) (w:World):Prop:=
 ∀ i o,ops[i]? =some o->DZ o ≠ 0->L.getD i false=true-> ¬Frc ops pr i L->rK P (i∈lz) o a w
def Up1 (P:Program) (ops:Array Oper) (pr:List (List Nat)) (lz:List Nat) (L:Array Bool) (w:World) (a a':Act):Prop:=
 ∃ p o d u,p∈lz/\ops[p]? =some o/\o.dst=some d/\L.getD p false=true/\ ¬Frc ops pr p L/\(execOp a.eval o).run P w= .ok (.value u) w/\a'=a.put (some d) u
inductive Ups (P:Program) (ops:Array Oper) (pr:List (List Nat)) (lz:List Nat) (L:Array Bool) (w:World) (a:Act):Act->Prop
 | refl:Ups P ops pr lz L w a a
 | step {b c:Act}:Ups P ops pr lz L w a b->Up1 P ops pr lz L w b c->Ups P ops pr lz L w a c
def Eh (P:Program) (ops:Array Oper) (Q:Exit->Act->World->Prop) (pr:List (List Nat)) (lz:List Nat):Nat->Array Bool->Act->World->Prop
 | 0,L,a,w=>Region.ready .any ops L=[]/\Q .normal a w
 | fuel+1,L,a,w=>(Region.ready .any ops L=[]->Q .normal a w)/\
   ∀ i∈Region.ready .any ops L,wpOp P ops Q i (fun a' w'=> ∀ a'',Ups P ops pr lz (L.setIfInBounds i true) w' a' a''->Z3 P ops pr lz (L.setIfInBounds i true) a'' w'/\Eh P ops Q pr lz fuel (L.setIfInBounds i true) a'' w') a w
def TC (ops:Array Oper) (pr:List (List Nat)):Bool:=Region.noSelect ops&&(Rs ops pr&&(List.range ops.size).all fun p=>match ops[p]? with
 | none=>true
 | some o=>match DZ o,o.dst with
   | 0,_=>true
   | _,none=>false
   | _,some d=> !(o.looksAt ops).contains d&&(List.range ops.size).all fun k=>Nat.beq k p||match ops[k]? with
     | none=>true
     | some ok=>(Hw (pr.getD p []) k||((Nat.beq (DZ ok) 0&&Hw (pr.getD k []) p)||match ok.dst with
      | some e=> !(o.looksAt ops).contains e&& !Nat.beq e d
      | none=>true))&&(Hw (pr.getD k []) p||(Hw (pr.getD p []) k||o.apart ops ok)))
section
variable {P:Program} {ops:Array Oper} {Q:Exit->Act->World->Prop} {pr:List (List Nat)} {lz:List Nat}
theorem XP: ∀ (fuel:Nat) (L:Array Bool) (a:Act) (w:World),Eh P ops Q pr lz fuel L a w->wpAny P .any ops Q fuel L a w
 | 0,_,_,_,h=>h
 | fuel+1,_,_,_,h=>⟨h.1,fun i hi=>wpOp_mono (fun a' w' h'=>XP fuel _ a' w' (h' a' .refl).2) (h.2 i hi)⟩
theorem Mb {o:Oper} (h:DZ o ≠ 0):o.guard=none/\ ∃ d,o.dst=some d:=by unfold DZ at h;grind
theorem HD (h:TC ops pr=true):Region.noSelect ops=true/\Rs ops pr=true/\ ∀ p o,ops[p]? =some o->DZ o ≠ 0-> ∀ d,o.dst=some d->d∉o.looksAt ops/\ ∀ k ok,ops[k]? =some ok->k ≠ p->
 (k∈pr.getD p []\/(DZ ok=0/\p∈pr.getD k [])\/ ∀ e,ok.dst=some e->e∉o.looksAt ops/\e ≠ d)/\(p∈pr.getD k []\/k∈pr.getD p []\/o.apart ops ok=true):=by
 simp only [TC,and_eq_true,all_eq_true,mem_range]at h;refine⟨h.1,h.2.1,fun p o hp hc d hd=>?_⟩;have hlt:p<ops.size:=(by grind);have:=h.2.2 p hlt;simp only [hp,hd]at this;simp only [and_eq_true,not_eq_true',all_eq_true,mem_range]at this;refine⟨by grind,fun k ok hk Tg=>?_⟩;have hkl:k<ops.size:=(by grind);have:=this.2 k hkl;simp only [hk,or_eq_true,and_eq_true,Dd,beq_eq]at this;rcases this with q | ⟨q1,q2⟩
 ·grind
 ·refine⟨q1.imp id fun q=>q.imp id fun q e he=>?_,q2⟩;rw [he]at q;simp only [and_eq_true,not_eq_true']at q;refine⟨by grind,fun e=>?_⟩;simp_all
def uM (pr:List (List Nat)) (L:Array Bool):Prop:= ∀ k,L.getD k false=true-> ∀ j∈pr.getD k [],L.getD j false=true
theorem AfY (hp:Rs ops pr=true): ∀ (k:Nat),k<ops.size-> ∀ j∈pr.getD k [],j<k:=by
 intro k;induction k using Nat.strongRecOn with
 | ind k ih=>
   intro hk j hj;have hp':=hp;simp only [Rs,all_eq_true,mem_range,and_eq_true,or_eq_true,List.any_eq_true,Dd,blt_eq]at hp';grind
theorem AfZ {L:Array Bool} {i:Nat} (h:L.getD i true=false):L.getD i false=false:=by grind
theorem ahk {L:Array Bool} {i:Nat} (h:L.getD i true=false):(L.setIfInBounds i true).getD i false=true:=by
 rcases Nat.lt_or_ge i L.size with q | q
 all_goals simp_all
theorem DO {L:Array Bool} {i k:Nat} (h:(L.setIfInBounds i true).getD k false=true):k=i\/L.getD k false=true:=by
 by_cases q:i=k
 all_goals simp_all
theorem Gy (hp:Rs ops pr=true) {L:Array Bool} (hd:uM pr L) {i:Nat} (h:i∈Region.ready .any ops L):i<ops.size/\L.getD i true=false/\ ∀ j∈pr.getD i [],L.getD j false=true:=by
 obtain⟨h0,o,ho,ae1⟩:=mem_ready.1 h;have hlt:i<ops.size:=(by grind);refine⟨hlt,h0,fun j hj=>?_⟩;have hp':=hp;simp only [Rs,all_eq_true,mem_range,and_eq_true,or_eq_true,List.any_eq_true,Dd,blt_eq]at hp';have dir: ∀ k∈VL ops i,L.getD k false=true:=fun k hk=>by unfold VL at hk;grind
 rcases (hp' i hlt).2 j hj with q | ⟨m,hm,q⟩
 ·grind
 ·exact hd m (dir m hm) j q
theorem uM.set (hp:Rs ops pr=true) {L:Array Bool} (hd:uM pr L) {i:Nat} (h:i∈Region.ready .any ops L):uM pr (L.setIfInBounds i true):=fun k hk j hj=>by
 rcases DO hk with rfl | hk
 ·exact getD_set_true ((Gy hp hd h).2.2 j hj)
 ·exact getD_set_true (hd k hk j hj)
theorem jN (a:Act) (d:Nat) (v:Value):a.put (some d) ((a.put (some d) v).tmps.getD d Go.undef)=a.put (some d) v:=by
 rcases Nat.lt_or_ge d a.tmps.size with q | q
 all_goals simp_all [Act.put,Array.setIfInBounds_eq_of_size_le]
theorem EC {a:Act} {x:Option Tmp} {v:Value} {d:Nat} (h: ∀ e,x=some e->e ≠ d):(a.put x v).tmps.getD d Go.undef=a.tmps.getD d Go.undef:=by
 cases x with
 | none=>rfl
 | some e=>
   have:=h e rfl;simp_all [Act.put]
theorem rK.ako {z:Prop} {o:Oper} {a:Act} {w:World} {x:Option Tmp} {v:Value} (hs: ∀ cs b,o.op ≠ .select cs b) (h1: ∀ e,x=some e->e∉o.looksAt ops) (h2: ∀ d e,o.dst=some d->x=some e->e ≠ d):rK P z o (a.put x v) w↔rK P z o a w:=by unfold rK;refine forall_congr' fun d=>forall_congr' fun hd=>?_;rw [execOp_put o hs a x v h1,EC (by grind)]
theorem yl (a:Act) (d:Nat) (v u:Value):(a.put (some d) v).put (some d) u=a.put (some d) u:=by simp only [Act.put,Array.setIfInBounds_setIfInBounds]
theorem uN (a:Act) {d e:Nat} (h:e ≠ d) (v u:Value):(a.put (some d) v).put (some e) u=(a.put (some e) u).put (some d) v:=by simp_all [Act.put,Array.setIfInBounds_comm]
theorem JI (h:PB ops lz=true) {p:Nat} (hp:p∈lz) {o:Oper} (ho:ops[p]? =some o):DZ o=1/\ ∀ d,o.dst=some d-> ∀ k ok,ops[k]? =some ok->k ≠ p->(DZ ok ≠ 0->d∉ok.looksAt ops)/\ ∀ e,ok.dst=some e->e ≠ d:=by
 simp only [PB,all_eq_true]at h;have:=h p hp;rw [ho]at this;simp only [and_eq_true,beq_eq]at this;refine⟨this.1,fun d hd k ok hk Tg=>?_⟩;have h2:=this.2;rw [hd]at h2;simp only [all_eq_true,mem_range]at h2;have h3:=h2 k (Array.getElem?_eq_some_iff.1 hk).1;rw [hk]at h3;simp only [or_eq_true,and_eq_true,beq_eq,not_eq_true']at h3;rcases h3 with q | ⟨q1,q2⟩
 ·grind
 ·refine⟨fun hc=>?_,fun e he=>?_⟩
  ·grind
  ·rw [he]at q2;intro e';simp_all
theorem Z3.up1 (hst:TC ops pr=true) (hlz:PB ops lz=true) {L:Array Bool} {a a':Act} {w:World} (h:Z3 P ops pr lz L a w) (hu:Up1 P ops pr lz L w a a'):Z3 P ops pr lz L a' w:=by
 obtain⟨hns,hp,ad5⟩:=HD hst;have abg:=Region.noSelect_spec hns;obtain⟨p,o,d,u,h1,h2,h3,h4,h5,h6,rfl⟩:=hu;obtain⟨k1,k2⟩:=JI hlz h1 h2;have aah:=(ad5 p o h2 (by omega) d h3).1;intro q oq hq hc hl hf;by_cases hqp:q=p
 ·subst hqp;rw [h2]at hq;injection hq with hq;subst hq;intro d' hd';obtain⟨u',m1,m2⟩:=h q o h2 hc hl hf d' hd';refine⟨u', .inl h1,fun w' hw'=>?_⟩;rw [execOp_put o (by grind) a (some d) u (fun e he=>by injection he with he;exact he▸aah)];grind
 ·obtain⟨m1,m2⟩:=k2 d h3 q oq hq hqp;exact(rK.ako (ops:=ops) (by grind) (by grind) (by grind)).2 (h q oq hq hc hl hf)
theorem Z3.ups (hst:TC ops pr=true) (hlz:PB ops lz=true) {L:Array Bool} {a a':Act} {w:World} (h:Z3 P ops pr lz L a w) (hu:Ups P ops pr lz L w a a'):Z3 P ops pr lz L a' w:=by
 induction hu with
 | refl=>exact h
 | step _ h1 ih=>exact ih.up1 hst hlz h1
theorem Ups.trans {L:Array Bool} {a b c:Act} {w:World} (h:Ups P ops pr lz L w a b) (h2:Ups P ops pr lz L w b c):Ups P ops pr lz L w a c:=by
 induction h2 with
 | refl=>exact h
 | step _ h1 ih=>exact ih.step h1
theorem Ups.put (hst:TC ops pr=true) (hlz:PB ops lz=true) {i:Nat} {oi:Oper} {v:Value} (hi:ops[i]? =some oi) (hc:DZ oi ≠ 0) {L:Array Bool} (hdc:uM pr L) (hun:L.getD i false=false) {a b:Act} {w:World} (h:Ups P ops pr lz L w a b):Ups P ops pr lz (L.setIfInBounds i true) w (a.put oi.dst v) (b.put oi.dst v):=by
 obtain⟨hns,hp,ad5⟩:=HD hst;have abg:=Region.noSelect_spec hns;obtain⟨_,d,hd⟩:=Mb hc;induction h with
 | refl=>exact .refl
 | step _ hu ih=>
   refine ih.step ?_;obtain⟨p,o,e,u,h1,h2,h3,h4,h5,h6,rfl⟩:=hu;obtain⟨k1,k2⟩:=JI hlz h1 h2;have Tg:i ≠ p:=(by grind);have hde:=(k2 e h3 i oi hi Tg).2 d hd;have hcN:Oo ops i ≠ 0:=by grind [Oo]
   have atC:d∉o.looksAt ops:=by
    rcases ((ad5 p o h2 (by omega) e h3).2 i oi hi Tg).1 with q | q | q
    ·have:=hdc p h4 i q;grind
    all_goals grind
   refine⟨p,o,e,u,h1,h2,h3,getD_set_true h4,fun⟨k,hk,hk0,hpk⟩=>?_,?_,?_⟩
   ·rcases DO hk with rfl | hk
    ·grind
    ·exact h5 ⟨k,hk,hk0,hpk⟩
   ·rw [execOp_put o (by grind) _ oi.dst v (fun e he=>by rw [hd]at he;injection he with he;exact he▸atC)];exact h6
   ·rw [hd,uN _ (Ne.symm hde)]
theorem Ab1 (hst:TC ops pr=true) (hlz:PB ops lz=true) {i:Nat} {oi:Oper} {v:Value} (hi:ops[i]? =some oi) (hc:DZ oi ≠ 0) (hQ: ∀ c a w, ¬Q (.panic c) a w):
 ∀ (fuel:Nat) (L:Array Bool) (a:Act) (w:World),uM pr L->i∈Region.ready .any ops L->
   (∀ a'',Ups P ops pr lz (L.setIfInBounds i true) w (a.put oi.dst v) a''->Z3 P ops pr lz (L.setIfInBounds i true) a'' w/\Eh P ops Q pr lz fuel (L.setIfInBounds i true) a'' w)->Eh P ops Q pr lz (fuel+1) L a w:=by
 obtain⟨hns,hp,ad5⟩:=HD hst;have abg:=Region.noSelect_spec hns;obtain⟨hgd,d,hd⟩:=Mb hc;have aah:=(ad5 i oi hi hc d hd).1;have hcN:Oo ops i ≠ 0:=by grind [Oo]
 have wanted: ∀ a:Act,Region.wanted oi (yielded ops a.tmps)=true:=fun a=>Gq hgd _;have asH: ∀ (L:Array Bool),uM pr L->i∈Region.ready .any ops L-> ¬Frc ops pr i (L.setIfInBounds i true):=fun L hdc hr ⟨k,hk,hk0,hik⟩=>by
  obtain⟨_,hun,_⟩:=Gy hp hdc hr;rcases DO hk with rfl | hk
  ·grind
  ·have:=hdc k hk i hik;grind
 have self: ∀ (L:Array Bool) (a:Act) (w:World) (fuel:Nat),uM pr L->i∈Region.ready .any ops L->(∀ a'',Ups P ops pr lz (L.setIfInBounds i true) w (a.put oi.dst v) a''->Z3 P ops pr lz (L.setIfInBounds i true) a'' w/\Eh P ops Q pr lz fuel (L.setIfInBounds i true) a'' w)->
  wpOp P ops Q i (fun a' w'=> ∀ a'',Ups P ops pr lz (L.setIfInBounds i true) w' a' a''->Z3 P ops pr lz (L.setIfInBounds i true) a'' w'/\Eh P ops Q pr lz fuel (L.setIfInBounds i true) a'' w') a w:=fun L a w fuel hdc hr H=>by
  obtain⟨_,hun,_⟩:=Gy hp hdc hr;obtain⟨u,hz,hu⟩:=(H _ .refl).1 i oi hi hc (ahk hun) (asH L hdc hr) d hd;have hex:=hu w (.inr (C6.refl w));have axV:=hex;rw [execOp_put oi (by grind) a oi.dst v (fun e he=>by rw [hd]at he;injection he with he;exact he▸aah)]at hex;have hy:YieldsIf P ops (fun w'=>w'=w) oi u a:= .inl ⟨wanted a,fun w' e=>by subst e;exact hex⟩;refine hy.wpOp hi rfl ?_;rcases hz with hz | hz
  ·intro a'' anf;refine H a'' (Ups.trans (.step .refl ?_) anf);exact⟨i,oi,d,u,hz,hi,hd,ahk hun,asH L hdc hr,axV,by rw [hd,yl]⟩
  ·subst hz;intro a'' anf;rw [hd,jN]at anf;grind
 intro fuel;induction fuel with
 | zero=>
   intro L a w hdc hr H;refine⟨(by grind),fun j hj=>?_⟩;by_cases hji:j=i
   ·simp_all
   ·have:=ready_mono hj hji;rw [(H _ .refl).2.1]at this;cases this
 | succ fuel ih=>
   intro L a w hdc hr H;refine⟨(by grind),fun j hj=>?_⟩;by_cases hji:j=i
   ·simp_all
   ·have h1:=(H _ .refl).2.2 j (ready_mono hj hji);obtain⟨hjl,atG,atH⟩:=Gy hp hdc hj;obtain⟨hil,axN,atI⟩:=Gy hp hdc hr;have hoj:ops[j]? =some ops[j]:=(by grind);have nij:i∉pr.getD j []:=(by grind);have nji:j∉pr.getD i []:=(by grind);have hap:oi.apart ops ops[j]=true:=by grind
    have hy:YieldsIf P ops (fun _=>False) oi v a:= .inl ⟨wanted a,fun _ h=>h.elim⟩;have h2:=wpOp_putIf hoj hap (fun cs b=>abg i oi cs b hi) (fun cs b=>abg j _ cs b hoj) (fun c a w q=>absurd q (hQ c _ w)) hy h1;have hdj:=hdc.set hp hj;have hir:i∈Region.ready .any ops (L.setIfInBounds j true):=ready_mono hr (Ne.symm hji);have axO:(L.setIfInBounds j true).getD i false=false:=by rw [getD_set_ne false hji];grind
    refine wpOp_mono (fun a' w' ⟨_,h34⟩=>?_) h2;rw [Array.setIfInBounds_comm _ _ (Ne.symm hji)]at h34;intro a3 ha3;have H3: ∀ a'',Ups P ops pr lz ((L.setIfInBounds j true).setIfInBounds i true) w' (a3.put oi.dst v) a''->Z3 P ops pr lz ((L.setIfInBounds j true).setIfInBounds i true) a'' w'/\Eh P ops Q pr lz fuel ((L.setIfInBounds j true).setIfInBounds i true) a'' w':=fun a'' anf=>
     h34 a'' ((ha3.put hst hlz hi hc hdj axO).trans anf)
    refine⟨fun p op hop hcp hpl hpf=>?_,(by grind)⟩;have h3:=(H3 _ .refl).1;have Tg:p ≠ i:=(by grind);have nip:i∉pr.getD p []:=fun q=>by have:=hdj p hpl i q;grind
    obtain⟨_,dp,hdp⟩:=Mb hcp;have hpd: ∀ e,oi.dst=some e->e∉op.looksAt ops/\e ≠ dp:=by
     rcases ((ad5 p op hop hcp dp hdp).2 i oi hi (Ne.symm Tg)).1 with q | q | q
     ·grind
     all_goals grind
    have:=h3 p op hop hcp (getD_set_true hpl) (fun⟨k,hk,hk0,hpk⟩=>by
     rcases DO hk with rfl | hk
     ·grind
     ·exact hpf ⟨k,hk,hk0,hpk⟩)
    exact(rK.ako (ops:=ops) (by grind) (by grind) (by grind)).1 this
theorem Z3.take (hst:TC ops pr=true) {i:Nat} {oi:Oper} {v:Value} (hi:ops[i]? =some oi) (hc:DZ oi ≠ 0) {L:Array Bool} {a:Act} {w:World} (hdc:uM pr L) (hr:i∈Region.ready .any ops L)
 (hS:Z3 P ops pr lz L a w) (hW:rK P (i∈lz) oi (a.put oi.dst v) w):Z3 P ops pr lz (L.setIfInBounds i true) (a.put oi.dst v) w:=by
 obtain⟨hns,hp,ad5⟩:=HD hst;have abg:=Region.noSelect_spec hns;obtain⟨hil,axN,atI⟩:=Gy hp hdc hr;intro p op hop hcp hpl hpf;rcases DO hpl with rfl | aqK
 ·grind
 ·clear hpl;have hpl:=aqK;have Tg:p ≠ i:=(by grind);have nip:i∉pr.getD p []:=fun q=>by have:=hdc p hpl i q;grind
  obtain⟨_,dp,hdp⟩:=Mb hcp;have hpd: ∀ e,oi.dst=some e->e∉op.looksAt ops/\e ≠ dp:=by grind
  refine(rK.ako (ops:=ops) (by grind) (by grind) (by grind)).2 ?_;exact hS p op hop hcp hpl (fun⟨k,hk,hk0,hpk⟩=>hpf ⟨k,getD_set_true hk,hk0,hpk⟩)
theorem ym {o:Oper} {a:Act} {w:World} {K:Act->World->Prop} (h:o.wp P a w K Q):o.wp P a w (fun a' w'=>K a' w'/\ ∃ ds u,a'=({a with defers:=ds}:Act).put o.dst u) Q:=by
 unfold Oper.wp at *;generalize (execOp a.eval o).run P w=r at *;cases r with
 | ok n w'=>
   cases n<;>simp only [Oper.upon]at h ⊢ <;>first
    | grind
    | grind
    | grind
    | grind
    | exact h
 | halt x w'=>cases x<;>simp only [Oper.upon]at h ⊢ <;>exact h
theorem nq (hst:TC ops pr=true) (hlz:PB ops lz=true) {j:Nat} {oj:Oper} (hj:ops[j]? =some oj) (hc:DZ oj=0) {L:Array Bool} {a:Act} {w:World} (hdc:uM pr L) (hrj:j∈Region.ready .any ops L) {fuel:Nat} (hS:Z3 P ops pr lz L a w) {K:Act->World->Prop}
 (hw:if Region.wanted oj (yielded ops a.tmps)=true then oj.wp P a w K Q else K (a.put oj.dst undef) w)
 (hB: ∀ a' w',K a' w'-> ∀ p op,ops[p]? =some op->DZ op=1->L.getD p false=true-> ¬Frc ops pr p (L.setIfInBounds j true)->(∀ w1,C6 w w1->(execOp a'.eval op).run P w1=(execOp a.eval op).run P w1)->(∀ d,op.dst=some d->a'.tmps.getD d Go.undef=a.tmps.getD d Go.undef)->rK P (p∈lz) op a w->rK P (p∈lz) op a' w')
 (hU: ∀ a' w' a'',K a' w'->Up1 P ops pr lz (L.setIfInBounds j true) w' a' a''->K a'' w')
 (hK: ∀ a' w',K a' w'->(∀ d',oj.dst ≠ some d'->(∀ (p:Nat) (op:Oper),ops[p]? =some op->DZ op ≠ 0->op.dst ≠ some d')->a'.tmps.getD d' Go.undef=a.tmps.getD d' Go.undef)->Z3 P ops pr lz (L.setIfInBounds j true) a' w'->Eh P ops Q pr lz fuel (L.setIfInBounds j true) a' w'):
 wpOp P ops Q j (fun a' w'=> ∀ a'',Ups P ops pr lz (L.setIfInBounds j true) w' a' a''->Z3 P ops pr lz (L.setIfInBounds j true) a'' w'/\Eh P ops Q pr lz fuel (L.setIfInBounds j true) a'' w') a w:=by
 obtain⟨hns,hp,ad5⟩:=HD hst;have abg:=Region.noSelect_spec hns;obtain⟨hjl,atG,atH⟩:=Gy hp hdc hrj;have key: ∀ a' w',K a' w'->(∃ ds u,a'=({a with defers:=ds}:Act).put oj.dst u)-> ∀ a'',Ups P ops pr lz (L.setIfInBounds j true) w' a' a''->Z3 P ops pr lz (L.setIfInBounds j true) a'' w'/\Eh P ops Q pr lz fuel (L.setIfInBounds j true) a'' w':=by
  intro a' w' hk ⟨ds,u,ha'⟩;have hSS:Z3 P ops pr lz (L.setIfInBounds j true) a' w':=by
   intro p op hop hcp hpl hpf;have Tg:p ≠ j:=(by grind);have hpl:L.getD p false=true:=by grind [DO]
   have nip:j∉pr.getD p []:=fun q=>by have:=hdc p hpl j q;grind
   obtain⟨_,dp,hdp⟩:=Mb hcp;have hpd: ∀ e,oj.dst=some e->e∉op.looksAt ops/\e ≠ dp:=by
    rcases ((ad5 p op hop hcp dp hdp).2 j oj hj (Ne.symm Tg)).1 with q | q | q
    ·grind
    ·exact absurd ⟨j,ahk atG,by unfold Oo;rw [hj];exact hc,q.2⟩ hpf
    ·exact q
   have hold: ¬Frc ops pr p L:=fun⟨k,hk,hk0,hpk⟩=>hpf ⟨k,getD_set_true hk,hk0,hpk⟩;have hW:=hS p op hop hcp hpl hold;have e1:execOp a'.eval op=execOp a.eval op:=by rw [ha'];exact execOp_put op (by grind) ({a with defers:=ds}:Act) oj.dst u (fun e he=>(hpd e he).1)
   have e2: ∀ d,op.dst=some d->a'.tmps.getD d Go.undef=a.tmps.getD d Go.undef:=(by grind [EC]);by_cases h2:DZ op=2
   ·intro d hd;obtain⟨u',m1,m2⟩:=hW d hd;simp_all
   ·have h1:DZ op=1:=by
     have:DZ op<=2:=by unfold DZ;grind
     omega
    grind
  have hsl: ∀ d',oj.dst ≠ some d'->a'.tmps.getD d' Go.undef=a.tmps.getD d' Go.undef:=(by grind [EC]);intro a'' hu;have hk':K a'' w'/\ ∀ d',oj.dst ≠ some d'->(∀ (p:Nat) (op:Oper),ops[p]? =some op->DZ op ≠ 0->op.dst ≠ some d')->a''.tmps.getD d' Go.undef=a.tmps.getD d' Go.undef:=by
   induction hu with
   | refl=>grind
   | step _ h1 ih=>
     refine⟨hU _ _ _ ih.1 h1,fun d' hd' hp'=>?_⟩;obtain⟨p,o,d,u,q1,q2,q3,q4,q5,q6,rfl⟩:=h1;rw [EC (fun e he q=>?_)]
     ·exact ih.2 d' hd' hp'
     grind [JI]
  have aFz:=hSS.ups hst hlz hu;grind
 unfold wpOp;simp only [hj];split
 ·rename_i hwt;rw [if_pos hwt]at hw;exact .inl (Oper.wp_mono (by grind) (ym hw))
 grind
end
theorem TD {P:Program} {F:Fr} {st:St} {a:Act} {w:World} {G:AF} (h:R F st a w G) {d:Nat} {t:TypeId} {len:Nat} {ps:Array (Nat×Operand)} (hs:(Bf P st d t len ps.toList).1) {r:Value} {w':World}
 (hr:(Instr.buildSlice t len (ps.map fun(i,x)=>(i,a.eval x))).run P w= .ok r w'):C6 w w':=by
 unfold Bf at *;split at hs
 ·rename_i E n by' abg;split at hs
  ·rename_i z hz;split at hs
   ·rename_i cs hf;obtain⟨h1,h2,h3,h4⟩:=hs;obtain⟨i,zv,hu,hi,hzv,hsz,hby,hzs⟩:=DJ abg;obtain⟨i',zv',hi',acx,hc⟩:=Hr hz;rw [hi]at hi';injection hi' with hi';subst hi';rw [hzv]at acx;injection acx with acx;subst acx;have hzr:=L5 (FX (w:=w) (G:=G) hc) (by omega) len;obtain⟨aa5,q1,q2⟩:=J3 hf (O4 (h.parts rfl h1)) hzr;have q1':Instr.fill (fun i=>some (i*n,n)) ((Array.range (len*n)).map (zv.cells[· % zv.cells.size]!)) (ps.map fun(i,x)=>(i,a.eval x)).toList =some aa5:=by simp_all
    rw [acm hu hi hzv hsz h3 h4 q1']at hr;grind [JY]
   grind
  grind
 grind
end Go.PL
namespace Go.PL
open Go Go.RowKit
section
variable {F:Fr} {st:St} {a:Act} {w:World} {G:AF}
theorem fb {w:World} {G:AF}: ∀ {cs:List C} {vs:List Value} {k:Nat} {c:C},Ai w G cs vs->cs[k]? =some c-> ∃ v,vs[k]? =some v/\Ae w G c v
 | [],_,_,_,_,h=>by simp at h
 | _::_,[],_,_,h,_=>by simp only [Ai]at h
 | c::cs,v::vs,0,d,h,hk=>by simp only [Ai]at h;grind
 | c::cs,v::vs,k+1,d,h,hk=>by simp only [Ai]at h;obtain⟨u,h1,h2⟩:=fb h.2 (by simpa using hk);exact⟨u,by simpa using h1,h2⟩
theorem R.alG (h:R F st a w G) {id:Ah} {e:Au} (hl:st.K_ id=some e) {cs':List C} (hlen:cs'.length=e.cs.length) (hp:Am cs'=true) {b:Nat} (hb:G.o_ id=some b)
 (hc: ∀ k c,cs'[k]? =some c->(e.cs[k]? =some c/\lZ c=true)\/ ∃ E n,c= .isl E n 0 []/\w.cell? ⟨b,k,none⟩=some (.slice none 0 0)):
 ∃ G',R F (st.e_ (DM id) ((st.so.map (Au.e_ (DM id))).map (Tp id e.row cs'))) a w G'/\G'.own id=G.own id:=by
 obtain⟨hm,hid,hd,hmk,hpu,hpe,hi,E0,n0,ag1,hr0⟩:=h.aaU hl;let G':AF:=⟨fun i=>if DM id i=true then none else G.o_ i,fun i=>if DM id i=true then some (.slice none 0 0)else G.own i,fun b=>F.av b\/ ∃ i,(if DM id i=true then none else G.o_ i)=some b⟩;have hag: ∀ i,DM id i=false->G'.o_ i=G.o_ i/\G'.own i=G.own i:=(by grind);have hno:DM id id=false:=by grind [FD]
 have t:aaf F (DM id) (fun _=>false) G G' w w:=Hv h G' rfl hag (by grind) (fun i j b hib hjb=>by
  simp only [G']at hib hjb;split at hib
  ·cases hib
  ·split at hjb
   ·cases hjb
   ·exact h.inj _ _ b hib hjb)
 obtain⟨E1,n1,ajj,v1,abN,ahS,g1,g2,g3,g4,g5,g6,g7,g8,g9⟩:=h.adv hl hb;obtain⟨us,r1,r2⟩:=g9.list;have axD: ∀ cs:List C,Am cs=true->JR (fun i=>BU i cs=true) G G':=fun cs hp i hi'=>absurd (show BU i cs=true from hi') (by rw [AQ i cs hp];simp);have A_:Al w G' cs' b 0:=by
  have:=xK (f:=_root_.id) (cs:=cs') (b:=b) (o:=0) (w:=w) (G:=G') (fun k c hk=>by
   rcases hc k c hk with ⟨q1,q2⟩ | ⟨E,n,q1,q2⟩
   ·obtain⟨u,k1,k2⟩:=fb (Ai.mono t.keeps _ _ (axD _ hpe) r1) q1;exact⟨u,by rw [zero_add];have:=r2 k u k1;grind,k2⟩
   ·refine⟨.slice none 0 0,by grind,?_⟩;rw [q1];simp only [_root_.id,Ae];rfl)
  simp_all
 have aez:Ba w G' ⟨id,e.row,cs',true⟩:=by unfold Ba;rw [g1];exact⟨by grind,v1,by grind, .inr ⟨b,abN,ahS,g4,by grind,g5,g6,g7,g8,A_⟩⟩
 have hin:E9 w G' ⟨id,e.row,cs',true⟩:=by
  intro j E2 n2 abf cs2 hj;rcases hc j _ hj with ⟨_,q2⟩ | ⟨E,n,q1,q2⟩
  ·cases q2
  ·injection q1 with q1 q3 q4 q5;subst q1 q3 q4 q5;have ho:G'.own (BR j id)=some (.slice none 0 0)/\G'.o_ (BR j id)=none:=by grind [IZ]
   refine⟨rfl,?_,b,_,by grind,q2,ho.1⟩;unfold Ba;grind
 have Ts:=t.akI h hl (fun _=>true) (fun d hd' _ ac7=>by
  have h1:DM id d.id=false:=by
   cases q:DM id d.id with
   | false=>rfl
   | true=>have:=FD q;rw [(h.deep d hd').1]at this;cases this
  exact⟨h1,rfl,fun _ k=>⟨by grind [IZ],rfl⟩⟩) (by rw [g1];rfl) aez hin hp
 rw [K4]at Ts;exact⟨G',t.aeX h _ Ts.1 Ts.2.1 Ts.2.2.1 Ts.2.2.2,(hag id hno).2⟩
end
end Go.PL
namespace Go.PL
open Go Go.RowKit
theorem R.amF {F:Fr} {st:St} {a:Act} {w w':World} {G:AF} (h:R F st a w G) {id:Ah} {e:Au} (he:st.look id=some e) {E n len abV:Nat}
 {v v':Value} {xs us:List Value} {cs:List C} (hq:Am cs=true) (hob:v.ownBlock=G.o_ id) (h2:Ai w G cs us)
 (hold:w.ownsRow 0 E n v len xs) (aam:w'.ownsRow 0 E n v' abV us) (hg:w.grownBy w' v.ownBlock) (hfr:v'.ownBlock=v.ownBlock\/ ∀ b,v'.ownBlock=some b->w.heap.size<=b):
 ∃ G',R F (st.new ⟨id,some (E,n,abV),cs,true⟩) a w' G'/\G'.own id=some v'/\v'.oneCell'=true:=by
 obtain⟨hm,hid⟩:=Bi he;have abm: ∀ b,b<w.heap.size->G.o_ id ≠ some b->w'.heap[b]? =w.heap[b]? :=fun b hb Tg=>hg.block b hb (by grind);have hn: ∀ b,v'.ownBlock=some b->w.heap.size<=b\/(G.o_ id=some b/\Co w w' b):=by
  intro b hb;rcases hfr with q | q
  ·refine .inr ⟨by grind,?_⟩;have hb2:v.ownBlock=some b:=by grind
   intro cur T fz hc;rcases aam.2 with ⟨r,_⟩ | ⟨g,cap,ac8,r,_,r2,_⟩
   ·rw [r]at hb;cases hb
   ·rw [r]at hb;simp only [Value.ownBlock,injEq]at hb;subst hb;rcases hold.2 with ⟨r3,_⟩ | ⟨g3,aum,auk,r3,_,r4,_⟩
    all_goals grind [Value.ownBlock]
  grind
 have hlt: ∀ b,v'.ownBlock=some b->b<w'.heap.size:=fun b hb=>(aam.lt b hb).2;have acy:v'.oneCell'=true:=by rcases aam.2 with ⟨q,_⟩ | ⟨g,cap,cur,q,_⟩<;>rw [q]<;>rfl
 refine⟨Ci F G id v'.ownBlock (some v'),?_,by simp [Ci],acy⟩;have hk:=h.keeps id v'.ownBlock (some v') hg.size abm hn;have atE:=H8 (row:=some (E,n,abV)) (pu:=true) h hk (fun _=>hq) h2;refine h.set ⟨id,some (E,n,abV),cs,true⟩ v'.ownBlock (some v') ⟨hg.os,hg.tape,hg.output⟩ hg.size abm ?_ (by grind) (fun _=>hq) ?_
 ·intro b hb apx;refine abm b (Nat.lt_of_lt_of_le hb h.v_) (fun q=>?_);rcases h.new id b q with q2 | q2
  all_goals grind
 ·have hl2:=h2.length;have hln:=aam.1;refine JZ (Au.adf _ _) ⟨by grind [N4],v',by simp [Ci,Au.P_],?_⟩;rcases aam.2 with ⟨q,h0⟩ | ⟨g,cap,cur,q,_,q2,q3,q4,q5,q6⟩
  ·simp_all [Ci,Value.ownBlock,Au.P_]
  ·refine .inr ⟨g,cap,cur,q,by simp [Ci,q,Value.ownBlock,Au.P_],q2,q3,q4,q5,?_⟩;grind [Al.aau,BE,List.take_append_drop]
theorem DL.clip {P:Program} {I:World->Prop} {o:Oper} {st:St} {K:St->Prop} {t:TypeId} {x:Operand} {k k':IntKind} {len:Nat} {cs:List C} (E n d:Nat)
 (ho:o.op= .slice t x none (some (.const (.int k 0))) (some (.const (.int k' 0)))) (hd:o.dst=some d)
 (hK:K ((st.new ⟨d::st.pre,some (E,n,0),[],true⟩).put (some d) (.c (.j_ (d::st.pre)))))
 (hs:Dt P t=some (E,n):=by kernel_rfl) (hx:st.ev x= .c (.sl len cs):=by kernel_rfl):DL P I o st K:=by
 intro F a w G Q hI hR;obtain⟨hu,inf,hi,hsz⟩:=DQ hs;have U_:=hR.ev x;rw [hx]at U_;simp only [Ab,Ae]at U_;obtain⟨_,p,cap,he,_⟩:=U_;have hb:(Instr.sliceBounds true len cap none (some (.int k 0)) (some (.int k' 0))).run P w= .ok (0,0,0) w:=by simp_all [Tc,Instr.sliceBounds]
 have s_:(execOp a.eval o).run P w= .ok (.value (.slice p 0 0)) w:=by have hc: ∀ u,a.eval (.const u)=u:=fun _=>rfl;simp [execOp,ho,he,hc,Instr.sliceAt,Instr.slice,Sem.run_bind,run_underlying hu,hb,sizeOf,typeInfo,program,Sem.run,hi,hsz]
 refine AK s_ ⟨_,Ci F G (d::st.pre) none (some (.slice p 0 0)),hK,?_⟩;rw [hd];exact R.put (d:=some d) (hR.alv (d::st.pre) E n p) (by simp only [Ab,Ae,Ci,if_true];exact⟨trivial,rfl⟩)
def U8 (P:Program) (f:FuncId) (E:TypeId):Prop:=
 ∀ (w:World) (v:Value) (n i vb m vc:Nat) (xs us:List Value) (cur:Array Value) (T:TypeId) (row:Option Nat),
   (w.ownsRow 0 E 1 v n xs/\row=v.ownBlock\/ ∃ p,v= .slice (some p) 0 0/\n=0/\xs=[]/\row=none)->i<=n->0<m->(∀ u∈xs,u.oneCell'=true)->(∀ u∈us,u.oneCell'=true)->us.length=m->(n+m)*8<=140737488355328->m<=vc->cur.size=vc->
   row ≠ some vb->w.heap[vb]? =some (.cells cur T (0,0))->cur.toList.take m=us->
   Calls P f #[v, .int .i64 i, .slice (some ⟨vb,0,none⟩) m vc] w fun e w'=> ∃ v',e= .returned v'/\w'.ownsRow 0 E 1 v' (n+m) (xs.take i++us++xs.drop i)/\
    w.grownBy w' row/\(v'.ownBlock=row\/ ∀ b,v'.ownBlock=some b->w.heap.size<=b)
theorem DL.ins {P:Program} {I:World->Prop} {o:Oper} {st:St} {K:St->Prop} {f:FuncId} {x y z:Operand} {r rv:Ah} {E len m:Nat} {cs ds:List C} {i:Int} (hk:BH o.op= .call f [x,y,z]) (abh:ent P f=true) (axQ:U8 P f E)
 (hx: ∀ Fr a w G,R Fr st a w G->Ab w G (.c (.j_ r)) (a.eval x)) (hy: ∀ Fr a w G,R Fr st a w G->Ab w G (.c (.int .i64 i)) (a.eval y)) (hz: ∀ Fr a w G,R Fr st a w G->Ab w G (.c (.j_ rv)) (a.eval z))
 (hl:st.look r=some ⟨r,some (E,1,len),cs,true⟩) (hl2:st.look rv=some ⟨rv,some (E,1,m),ds,true⟩) (Tg:r ≠ rv) (hi:0<=i/\i<=(len:Nat)) (hm:0<m) (al2:(len+m)*8<=140737488355328)
 {s1:St} (hls:B8 (st.new ⟨r,some (E,1,len+m),cs.take i.toNat++ds++cs.drop i.toNat,true⟩) s1) (hK:K (s1.put o.dst (.c (.j_ r)))):DL P I o st K:=by
 intro F a w G Q hI hR;have hr:=Ri (a:=a) hk abh w;unfold Oper.wp Oper.upon;rw [hr];obtain⟨hm1, -⟩:=Bi hl;obtain⟨hm2, -⟩:=Bi hl2;have U_:=hx F a w G hR;have hyv:=hy F a w G hR;have hzv:=hz F a w G hR;simp only [Ab,Ae]at U_ hyv hzv;obtain⟨v,xs,k1,k2,k3,k4⟩:=DI (e:=⟨r,some (E,1,len),cs,true⟩) rfl (hR.store _ hm1);obtain⟨u,us,q1,q2,q3,q4⟩:=DI (e:=⟨rv,some (E,1,m),ds,true⟩) rfl (hR.store _ hm2);have hxe:a.eval x=v:=by grind
 have hze:a.eval z=u:=by grind
 have hye:a.eval y= .int .i64 i:=hyv;have aq1:([x,y,z].map a.eval).toArray = #[v, .int .i64 i,u]:=by grind
 rw [aq1];obtain⟨j,hj⟩: ∃ j:Nat,i=(j:Int):=(by grind);subst hj;simp only [toNat_natCast]at hls;rcases q4 with ⟨q4,q5⟩ | ⟨p,_,q0,_⟩
 rotate_left
 ·omega
 rcases q4.2 with ⟨_,q0⟩ | ⟨vb,vc,cur,rfl,_,c1,c2,c3,c4,c5⟩
 ·omega
 simp only [Nat.mul_one]at c4 c5;have hrv:G.o_ rv=some vb:=q5.symm;have hlx:xs.length=len:=by
  have h5:cs.length=len*1:=by have:=hR.store _ hm1;grind [Ba]
  have h6:cs.length=xs.length:=k3.length;omega
 have hlu:us.length=m:=by grind
 have hold:(w.ownsRow 0 E 1 v len xs/\G.o_ r=v.ownBlock\/ ∃ p,v= .slice (some p) 0 0/\len=0/\xs=[]/\G.o_ r=none):=by grind
 refine(axQ w v len j vb m vc xs us cur E (G.o_ r) hold (by omega) hm (Ai.one k3) (Ai.one q3) hlu al2 c2 c4 (fun q=>Tg (hR.inj _ _ _ q hrv)) c1 c5).mono fun e w' ⟨v',he,h1,h2,h3⟩=>?_;subst he;have aez:Ai w G (cs.take j++ds++cs.drop j) (xs.take j++us++xs.drop j):=((k3.take j).append q3).append (k3.drop j);have hp:Am (cs.take j++ds++cs.drop j)=true:=by have p1:Am cs=true:=hR.y_ _ hm1 rfl;have p2:Am ds=true:=hR.y_ _ hm2 rfl;grind [Cn]
 have fin: ∃ G',R F (st.new ⟨r,some (E,1,len+m),cs.take j++ds++cs.drop j,true⟩) a w' G'/\G'.own r=some v'/\v'.oneCell'=true:=by
  rcases hold with ⟨g1,g2⟩ | ⟨p,g1,g2,g3,g4⟩
  ·exact R.amF hR hl hp g2.symm aez g1 h1 (by grind) (by grind)
  ·rw [g4]at h2 h3;exact R.amF hR hl (v:= .slice none 0 0) (len:=0) (xs:=[]) hp (by rw [g4];rfl) aez ⟨by simp, .inl ⟨rfl,rfl⟩⟩ h1 h2 h3
 obtain⟨G',g1,g2,g3⟩:=fin;exact⟨_,G',hK,(g1.less hls).put (by simp_all [Ab,Ae])⟩
end Go.PL
namespace Go.PL
open Go Go.RowKit
variable {T:Bm}
inductive VT where
 | k (kd:Kd)
 | s (E:Nat)
 | f (g:FuncId)
def ED (T:Bm):VT->Type
 | .k kd=>Pa T.den kd
 | .s E=>T.den E
 | .f _=>Unit
def AaW (T:Bm):(k:Kd)->Pa T.den k
 | .int _=>(default:Int)
 | .bool =>(default:Bool)
 | .str =>(default:List UInt8)
 | .t_ E=>(default:List (T.den E))
def AaX (T:Bm):(t:VT)->ED T t
 | .k kd=>AaW T kd
 | .s E=>(T.inh E).default
 | .f _=>()
def PN:(t:VT)->ED T t->DV T
 | .k kd,x=> .c (.k kd x)
 | .s E,x=> .agg (eW E x)
 | .f g,_=> .c (.c (.fn g))
def EE:(t:VT)->ED T t->V
 | .k kd,x=> .c (Bk T.enc kd x)
 | .s E,x=> .agg (T.enc E x)
 | .f g,_=> .c (.fn g)
theorem Pc (t:VT) (x:ED T t):(PN t x).toV =EE t x:=by
 cases t with
 | k kd=>simp only [PN,DV.toV,DC.toC,EE]
 | s E=>exact congrArg V.agg (GO E x)
 | f g=>simp only [PN,DV.toV,DC.toC,EE]
theorem RF {H:Ax T} {nx:Nat} (t:VT) (x:ED T t):(PN t x).ok H nx:=by cases t<;>grind [PN,DV.ok,DC.ok,MR]
def asC:DV T->Option (DC T)
 | .c x=>some x
 | _=>none
def asA:DV T->Option (List (DC T))
 | .agg cs=>some cs
 | _=>none
def fc (kd:Kd) (v:DV T):Option (Pa T.den kd):=match asC v with
 | some x=>Iq false kd x
 | none=>none
def aiT (E:Nat) (v:DV T):Option (T.den E):=match asA v with
 | some cs=>tp false E cs
 | none=>none
def nr (g:FuncId):DV T->Option Unit
 | .c (.c (.fn g'))=>match Nat.beq g' g with
   | true=>some ()
   | false=>none
 | _=>none
def uO:(t:VT)->DV T->Option (ED T t)
 | .k kd,v=>fc kd v
 | .s E,v=>aiT E v
 | .f g,v=>nr g v
theorem XQ {v:DV T} {x:DC T} (h:asC v=some x):v= .c x:=by unfold asC at h;grind
theorem XR {v:DV T} {x:List (DC T)} (h:asA v=some x):v= .agg x:=by unfold asA at h;grind
theorem pI {kd:Kd} {v:DV T} {x:Pa T.den kd} (h:fc kd v=some x):v.toV= .c (Bk T.enc kd x):=by
 unfold fc at h;split at h
 ·rename_i y hy;rw [XQ hy];simp only [DV.toV,(CK h).2 rfl]
 ·cases h
theorem yn {E:Nat} {v:DV T} {x:T.den E} (h:aiT E v=some x):v.toV= .agg (T.enc E x):=by
 unfold aiT at h;split at h
 ·rename_i y hy;rw [XR hy];simp only [DV.toV,(Ir h).2 rfl]
 ·cases h
theorem yo {g:FuncId} {v:DV T} {x:Unit} (h:nr g v=some x):v.toV= .c (.fn g):=by unfold nr at h;grind [eq_of_beq_eq_true,DV.toV,DC.toC]
theorem XT {t:VT} {v:DV T} {x:ED T t} (h:uO t v=some x):v.toV=EE t x:=by
 cases t with
 | k kd=>exact pI h
 | s E=>exact yn h
 | f g=>exact yo h
def XS (T:Bm):List VT->Type
 | []=>Unit
 | t::ts=>ED T t×XS T ts
def Gz:(ts:List VT)->XS T ts->List V
 | [],_=>[]
 | t::ts,x=>EE t x.1::Gz ts x.2
def TF:(ts:List VT)->List (DV T)->Option (XS T ts)
 | [],[]=>some ()
 | t::ts,v::vs=>match uO t v,TF ts vs with
   | some x,some y=>some (x,y)
   | _,_=>none
 | _,_=>none
theorem U9: ∀ {ts:List VT} {vs:List (DV T)} {x:XS T ts},TF ts vs=some x->Be vs=Gz ts x
 | [],[],x,_=>by simp only [Be,Gz]
 | [],_::_,_,h=>by simp [TF]at h
 | _::_,[],_,h=>by simp [TF]at h
 | t::ts,v::vs,x,h=>by
   unfold TF at h;split at h
   ·rename_i a b h1 h2;injection h with h;subst h;simp only [Be,Gz,XT h1,U9 h2]
   ·cases h
def RT (T:Bm):List VT->Type
 | []=>Unit
 | [t]=>ED T t
 | t::u::ts=>ED T t×RT T (u::ts)
def AaY (T:Bm):(ts:List VT)->RT T ts
 | []=>()
 | [t]=>AaX T t
 | t::u::ts=>(AaX T t,AaY T (u::ts))
instance (ts:List VT):Inhabited (RT T ts):=⟨AaY T ts⟩
def CL:(ts:List VT)->RT T ts->List (DV T)
 | [],_=>[]
 | [t],x=>[PN t x]
 | t::u::ts,x=>PN t x.1::CL (u::ts) x.2
def TG:(ts:List VT)->RT T ts->DV T
 | [],_=> .tup []
 | [t],x=>PN t x
 | t::u::ts,x=> .tup (CL (t::u::ts) x)
def Cz:(ts:List VT)->RT T ts->List V
 | [],_=>[]
 | [t],x=>[EE t x]
 | t::u::ts,x=>EE t x.1::Cz (u::ts) x.2
def Jl:(ts:List VT)->RT T ts->V
 | [],_=> .tup []
 | [t],x=>EE t x
 | t::u::ts,x=> .tup (Cz (t::u::ts) x)
theorem XU: ∀ (ts:List VT) (x:RT T ts),Be (CL ts x)=Cz ts x
 | [],_=>by simp only [CL,Be,Cz]
 | [t],x=>congrArg (fun z=>[z]) (Pc t x)
 | t::u::ts,x=>by simp only [CL,Be,Cz,Pc,XU (u::ts)]
theorem Oq: ∀ (ts:List VT) (x:RT T ts),(TG ts x).toV =Jl ts x
 | [],_=>by simp only [TG,DV.toV,Jl,Be]
 | [t],x=>Pc t x
 | t::u::ts,x=>by simp only [TG,DV.toV,Jl,XU]
theorem TH {H:Ax T} {nx:Nat}: ∀ (ts:List VT) (x:RT T ts),CZ H nx (CL ts x)
 | [],_=>by simp only [CL,CZ]
 | [t],x=>by simp only [CL,CZ,and_true];exact RF t x
 | t::u::ts,x=>by simp only [CL,CZ,RF,TH (u::ts),and_self]
theorem RG {H:Ax T} {nx:Nat}: ∀ (ts:List VT) (x:RT T ts),(TG ts x).ok H nx
 | [],_=>by simp only [TG,DV.ok,CZ]
 | [t],x=>RF t x
 | t::u::ts,x=>by grind [TG,DV.ok,TH]
def fe:Kd->Bool
 | .t_ _=>false
 | _=>true
def TI (T:Bm):VT->Bool
 | .k kd=>fe kd
 | .s E=>(T.ks E).all fe
 | .f _=>true
theorem XV {den:Nat->Type} {enc: ∀ E,den E->List C}: ∀ (ks:List Kd) (y:DK den ks),(BG enc ks y).all C.flat=ks.all fe
 | [],_=>rfl
 | k::ks,y=>by simp only [BG,all_cons,XV ks];cases k<;>rfl
theorem Qu (t:VT) (x:ED T t):(EE t x).flat =TI T t:=by
 cases t with
 | k kd=>cases kd<;>rfl
 | s E=>
   show (T.enc E (show T.den E from x)).all C.flat=(T.ks E).all fe;rw [<-T.aaT,XV]
 | f g=>rfl
theorem Va: ∀ (ts:List VT) (x:RT T ts),LD (Cz ts x)=ts.all (TI T)
 | [],_=>by simp [Cz,LD]
 | [t],x=>by simp only [Cz,LD,all_cons,all_nil,Bool.and_true];exact Qu t x
 | t::u::ts,x=>by simp only [Cz,LD,Qu,Va (u::ts),all_cons]
theorem Mc: ∀ (ts:List VT) (x:RT T ts),(Jl ts x).flat =ts.all (TI T)
 | [],_=>by simp [Jl,V.flat,LD]
 | [t],x=>by simp only [Jl,all_cons,all_nil,Bool.and_true];exact Qu t x
 | t::u::ts,x=>by simp only [Jl,V.flat,Va]
def Kp (m:Nat):(k:Kd)->Pa T.den k->List OE
 | .t_ E,l=>match m with
   | 1=>[⟨false,E,T.sz E,List.length l,List.flatMap (T.enc E) l⟩]
   | 2=>[⟨true,E,T.sz E,List.length l,AC T E (List.length l:Nat) 0 l⟩]
   | _=>[]
 | _,_=>[]
def PD (m:Nat):Kd->Nat
 | .t_ _=>match m with
   | 1=>1
   | 2=>1
   | _=>0
 | _=>0
def PO (m j:Nat) (k:Kd) (x:Pa T.den k):PC:=match PD m k with
 | 0=> .c (Bk T.enc k x)
 | _=> .o j
def XW (m:Nat) (id:Ah) (k:Kd):List Ah:=match PD m k with
 | 0=>[]
 | _=>match m with
   | 2=>[1000003::id]
   | _=>[id]
def CA:List Nat->(ks:List Kd)->DK T.den ks->List OE
 | m::ms,k::ks,x=>Kp m k x.1++CA ms ks x.2
 | _,_,_=>[]
def FH:List Nat->Nat->(ks:List Kd)->DK T.den ks->List PC
 | m::ms,j,k::ks,x=>PO m j k x.1::FH ms (j+PD m k) ks x.2
 | [],j,k::ks,x=> .c (Bk T.enc k x.1)::FH [] j ks x.2
 | _,_,[],_=>[]
def Md:List Nat->Nat->Ah->List Kd->List Ah
 | m::ms,i,E_,k::ks=>XW m (i::E_) k++Md ms (i+1) E_ ks
 | _,_,_,_=>[]
def FI:List Nat->List Kd->Nat
 | m::ms,k::ks=>PD m k+FI ms ks
 | _,_=>0
def Fv (T:Bm):VT->List Kd
 | .k kd=>[kd]
 | .s E=>T.ks E
 | .f _=>[]
def Or:(t:VT)->ED T t->DK T.den (Fv T t)
 | .k _,x=>(x,())
 | .s E,x=>T.un E x
 | .f _,_=>()
def Jg (m:List Nat) (j:Nat):(t:VT)->ED T t->PP
 | .k kd,x=> .c (PO (m.headD 0) j kd x)
 | .s E,x=> .a (FH m j (T.ks E) (T.un E x))
 | .f g,_=> .c (.c (.fn g))
def Dv:List (List Nat)->(ts:List VT)->RT T ts->List OE
 | m::_,[t],x=>CA m (Fv T t) (Or t x)
 | m::ms,t::u::ts,x=>CA m (Fv T t) (Or t x.1)++Dv ms (u::ts) x.2
 | _,_,_=>[]
def Ca:List (List Nat)->Nat->(ts:List VT)->RT T ts->List PP
 | m::_,j,[t],x=>[Jg m j t x]
 | [],j,[t],x=>[Jg [] j t x]
 | m::ms,j,t::u::ts,x=>Jg m j t x.1::Ca ms (j+FI m (Fv T t)) (u::ts) x.2
 | [],j,t::u::ts,x=>Jg [] j t x.1::Ca [] j (u::ts) x.2
 | _,_,[],_=>[]
def XX (T:Bm):List (List Nat)->Nat->Ah->List VT->List Ah
 | m::ms,p,E_,t::ts=>Md m 0 (p::E_) (Fv T t)++XX T ms (p+1) E_ ts
 | _,_,_,_=>[]
structure CE (T:Bm) (P:Program) (I:World->Prop) where
 f:FuncId
 ps:List VT
 rs:List VT
 run:XS T ps->Option (RT T rs)
 ok: ∀ x r,run x=some r->BV P I f (Gz ps x) (· =Jl rs r)
 ow:List (List Nat):=[]
 okx:ow ≠ []-> ∀ x r,run x=some r->MT P I f (Gz ps x) (Dv ow rs r) (Ca ow 0 rs r):=by exact fun h=>absurd rfl h
 ins:Option TypeId:=none
 apn: ∀ E,ins=some E->U8 P f E:=by exact fun _ h=>nomatch h
 tab:Option (Nat×List (List UInt8)):=none
 ao5: ∀ g t,tab=some (g,t)->Oa I g t:=by exact fun _ _ h=>nomatch h
def Qv {P:Program} {I:World->Prop} (f:FuncId) (ws:List (DV T)):List (CE T P I)->Option ((e:CE T P I)×XS T e.ps)
 | []=>none
 | e::r=>match Nat.beq e.f f with
   | true=>match TF e.ps ws with
     | some x=>some ⟨e,x⟩
     | none=>Qv f ws r
   | false=>Qv f ws r
theorem GA {P:Program} {I:World->Prop} {f:FuncId} {ws:List (DV T)}: ∀ {l:List (CE T P I)} {e:CE T P I} {x:XS T e.ps},Qv f ws l=some ⟨e,x⟩->e.f=f/\Be ws=Gz e.ps x
 | [],_,_,h=>by cases h
 | a::r,e,x,h=>by
   unfold Qv at h;split at h
   ·rename_i hb;split at h
    ·rename_i y hy;injection h with h;injection h with h1 h2;subst h1;have h2:=eq_of_heq h2;grind [eq_of_beq_eq_true,U9]
    ·exact GA h
   ·exact GA h
def ff (st:Af T) (c:DC T):Option (DC T):=match K7 c with
 | some id=>match DN st id with
   | some ⟨E,l⟩=>some (.k (.t_ E) l)
   | none=>none
 | none=>some (XJ c)
def XY (st:Af T):List (DC T)->Option (List (DC T))
 | []=>some []
 | c::cs=>match ff st c,XY st cs with
   | some d,some ds=>some (d::ds)
   | _,_=>none
def fg (st:Af T):DV T->Option (DV T)
 | .c x=>match ff st x with
   | some y=>some (.c y)
   | none=>none
 | .agg cs=>match XY st cs with
   | some ds=>some (.agg ds)
   | none=>none
 | _=>none
def MU (st:Af T):List (DV T)->Option (List (DV T))
 | []=>some []
 | v::vs=>match fg st v,MU st vs with
   | some d,some ds=>some (d::ds)
   | _,_=>none
def pJ (c:DC T):List Ah:=match K7 c with
 | some id=>[id]
 | none=>[]
def cV:List (DC T)->List Ah
 | []=>[]
 | c::cs=>pJ c++cV cs
def pK:DV T->List Ah
 | .c x=>pJ x
 | .agg cs=>cV cs
 | _=>[]
def RH:List (DV T)->List Ah
 | []=>[]
 | v::vs=>pK v++RH vs
theorem MV {c:DC T} (h:K7 c=none): ∀ id,c.toC ≠ .j_ id:=fun i he=>by
 cases c with
 | c x=>grind [DC.toC,K7]
 | k kd x=>cases kd<;>simp [DC.toC,Bk]at he
 | ip=>simp [DC.toC]at he
 | rp=>simp [DC.toC]at he
 | ap=>simp [DC.toC]at he
 | bs=>simp [DC.toC]at he
 | clo b f cs=>cases b<;>simp [DC.toC]at he
theorem Vb {st:Af T} {c d:DC T} (h:ff st c=some d):K2 st.toSt c.toC=d.toC:=by
 unfold ff at h;split at h
 ·rename_i id ho;have:=EB ho;subst this;split at h
  ·rename_i E l hr;injection h with h;subst h;simp only [DC.toC,K2,(BQ hr).1,Bk,if_true]
  ·cases h
 ·rename_i ho;injection h with h;subst h;rw [XK];have:=MV ho;cases hc:c.toC<;>simp only [K2,Hj];grind
theorem Vc {st:Af T}: ∀ {cs ds:List (DC T)},XY st cs=some ds->(Av cs).map (K2 st.toSt)=Av ds
 | [],ds,h=>by grind [XY,Av]
 | c::cs,ds,h=>by
   unfold XY at h;split at h
   ·rename_i d ds' h1 h2;injection h with h;subst h;simp only [Av,map_cons,Vb h1,Vc h2]
   ·cases h
theorem Vd {st:Af T} {v w:DV T} (h:fg st v=some w):BF st.toSt v.toV=w.toV:=by unfold fg at h;grind [DV.toV,BF,Vb,Vc]
theorem GP {st:Af T}: ∀ {vs ws:List (DV T)},MU st vs=some ws->(Be vs).map (BF st.toSt)=Be ws
 | [],ws,h=>by grind [MU,Be]
 | v::vs,ws,h=>by
   unfold MU at h;split at h
   ·rename_i d ds' h1 h2;injection h with h;subst h;simp only [Be,map_cons,Vd h1,GP h2]
   ·cases h
theorem XZ (c:DC T):Rh c.toC=pJ c:=by
 unfold pJ;split
 ·rename_i id ho;rw [EB ho];simp only [DC.toC,Rh]
 simp_all [MV,Rh]
theorem X0: ∀ cs:List (DC T),(Av cs).flatMap Rh=cV cs
 | []=>by simp [Av,cV]
 | c::cs=>by simp only [Av,flatMap_cons,XZ,X0 cs,cV]
theorem ny (v:DV T):tz v.toV=pK v:=by cases v<;>grind [DV.toV,tz,pK,XZ,X0]
theorem F5: ∀ vs:List (DV T),C7 (Be vs)=RH vs
 | []=>by simp [Be,C7,RH]
 | v::vs=>by have:=F5 vs;simp only [C7]at this ⊢;simp only [Be,flatMap_cons,ny,this,RH]
theorem Dr (t:VT) (x:ED T t):(EE t x).pure =true:=by
 cases t with
 | k kd=>grind [EE,V.pure,Xm]
 | s E=>grind [EE,V.pure,Xo]
 | f g=>rfl
theorem Kq: ∀ (ts:List VT) (x:XS T ts),Cq (Gz ts x)=true
 | [],_=>by simp only [Gz,Cq]
 | t::ts,x=>by simp only [Gz,Cq,Dr,Kq ts,Bool.and_self]
theorem Af.arg_val {st:Af T} {key:List GL} {x:Operand} {v:DV T} (h:st.arg key x=some v) (g:Bool):(st.toSt.arg g x).2=v.toV:=by
 have e:=st.abD x;unfold Af.arg at h;unfold St.arg;split at h
 ·grind [DV.toV]
 ·rename_i Tg;injection h with h;subst h;rw [e];cases hv:st.ev x<;>grind [DV.toV]
theorem TJ {st:Af T} {key:List GL} (g:Bool): ∀ {xs:List Operand} {vs:List (DV T)},Je st key xs=some vs->(st.toSt.args g xs).2=Be vs
 | [],vs,h=>by grind [Je,St.args,Be]
 | x::xs,vs,h=>by
   unfold Je at h;split at h
   ·rename_i v vs' h1 h2;injection h with h;subst h;simp only [St.args,Be,Af.arg_val h1 g,TJ g h2]
   ·cases h
def cW {P:Program} {I:World->Prop} (Γ:List (CE T P I)) (key:List GL) (st:Af T) (f:FuncId) (xs:List Operand) (d:Option Nat):M (Af T):=
 match Je st key xs with
 | some vs=>match MU st vs with
   | some ws=>match Qv f ws Γ with
     | some ⟨e,x⟩=> .opt (gk key (e.run x)) fun r=>match key with
       | []=>match e.rs.all (TI T)with
         | true=> .ret (st.put d (TG e.rs r))
         | false=>match RH vs with
           | []=> .ret (st.put d (TG e.rs r))
           | [id]=>match st.frz id with
             | some s=> .ret (s.put d (TG e.rs r))
             | none=> .no
           | _=> .no
       | l::ls=>match e.rs.all (TI T),RH vs with
         | true,_=> .ret (st.put d (.g (l::ls) (TG e.rs r)))
         | false,[]=> .ret (st.put d (.g (l::ls) (TG e.rs r)))
         | _,_=> .no
     | none=> .no
   | none=> .no
 | none=> .no
def uP (H:Ax T) (P:Program) (I:World->Prop) (ops:Array Oper) (st:Af T) (o:Oper) (a_:Af T):Prop:=
 (∃ H',Nx H st H' a_)/\a_.pre=st.pre/\ ∀ K:St->Prop,K a_.toSt->bY P I ops o st.toSt K
section
variable {H:Ax T} {P:Program} {I:World->Prop} {Γ:List (CE T P I)} {st:Af T}
theorem rL (hw:AI H st) {f:FuncId} {xs:List Operand} {o:Oper} (hk:BH o.op= .call f xs):
 Yl (cW Γ [] st f xs o.dst) (fun a_=>(∃ H',Nx H st H' a_)/\a_.pre=st.pre/\ ∀ K:St->Prop,K a_.toSt->qY P I o st.toSt K):=by
 unfold cW;split
 ·rename_i vs hvs;split
  ·rename_i ws hws;split
   ·rename_i e x hx;obtain⟨he,hx⟩:=GA hx;refine Yl.opt fun r hr=>?_;obtain⟨a1,a2,a3⟩:=Dq (key:=[]) hw (fun _ hl=>by cases hl) rfl hvs;change (st.toSt.args true xs).1 at a2;change (st.toSt.args true xs).2=Be vs at a3;have hp:=e.ok x r (Rv hr rfl);rw [he]at hp;have hs:(Be vs).map (BF st.toSt)=Gz e.ps x:=by rw [GP hws,hx]
    have base: ∀ a_:Af T,((Jl e.rs r).flat =true\/(C7 (Be vs)).length <=1/\ ∀ id∈C7 (Be vs),st.toSt.ab9 id=true)->a_.toSt=st.toSt.after (C7 (Be vs)) o.dst (Jl e.rs r)-> ∀ K:St->Prop,K a_.toSt->qY P I o st.toSt K:=by intro a_ h1 h2 K hK;refine .inr ?_;grind [Kq]
    simp only;split
    ·rename_i hf;refine Yl.ret ⟨Af.aai hw _ (RG _ _),AU _ _ _,base _ (.inl (by rw [Mc];exact hf)) ?_⟩;simp_all [Af.k_,Oq,St.after,Mc]
    ·rename_i hf;have hnf: ¬(Jl e.rs r).flat =true:=by rw [Mc,hf];simp
     split
     ·rename_i ht;refine Yl.ret ⟨Af.aai hw _ (RG _ _),AU _ _ _,base _ (.inr (by rw [F5,ht];simp)) ?_⟩;simp_all [Af.k_,Oq,F5,St.after]
     ·rename_i id ht;split
      ·rename_i s hs';obtain⟨⟨H1,hN⟩,h2,h3,h4⟩:=Af.afB hw hs';refine Yl.ret ⟨Af.H_ hN _ (RG _ _),by rw [AU];exact h4,base _ (by grind [F5]) ?_⟩;simp_all [Af.k_,Oq,F5,St.after]
      ·exact Yl.no
     ·exact Yl.no
   ·exact Yl.no
  ·exact Yl.no
 ·exact Yl.no
theorem Me {H:Ax T} {st:Af T} {key:List GL} (hw:AI H st) (hk:FE H st.nx key) (d:Option Nat) {v:DV T} (hv:Bb key=true->v.ok H st.nx): ∃ H',Nx H st H' (st.put d (.g key v)):=
 Af.aai hw d (by simp only [DV.ok];exact⟨hk,hv⟩)
theorem rM (hw:AI H st) {f:FuncId} {xs:List Operand} {o:Oper} {key:List GL} (hk:BH o.op= .call f xs) (am6:FE H st.nx key) (Tg:key ≠ []):
 Yl (cW Γ key st f xs o.dst) (fun a_=>(∃ H',Nx H st H' a_)/\a_.pre=st.pre/\ ∀ K:St->Prop,K a_.toSt->wpG P I o st.toSt (Bb key) K):=by
 unfold cW;split
 ·rename_i vs hvs;split
  ·rename_i ws hws;split
   ·rename_i e x hx;obtain⟨he,hx⟩:=GA hx;refine Yl.opt fun r hr=>?_;have hs:(Be vs).map (BF st.toSt)=Gz e.ps x:=by rw [GP hws,hx]
    have base:((Jl e.rs r).flat =true\/RH vs=[])-> ∀ K:St->Prop,K (st.put o.dst (.g key (TG e.rs r))).toSt ->wpG P I o st.toSt (Bb key) K:=by
     intro h1 K hK;refine .inr ?_;rw [hk];simp only;rw [TJ _ hvs,hs,F5];rw [Af.k_]at hK;refine⟨fun hc=>?_,Jl e.rs r,h1,fun hc=>?_,by grind [DV.toV,Oq]⟩
     ·obtain⟨a1,a2,a3⟩:=Dq hw am6 hc hvs;grind [Kq]
     ·have hp:=e.ok x r (Rv hr hc);grind
    split
    ·grind
    ·rename_i l ls;split
     all_goals simp_all [Yl.ret,Me,RG,AU,Mc,Yl.no]
   ·exact Yl.no
  ·exact Yl.no
 ·exact Yl.no
end
end Go.PL
namespace Go.PL
open Go Go.RowKit
variable {T:Bm}
def Ab2 (n:Nat) (want b:Bool):GL:=⟨n,want,b==want⟩
def X1 (st:Af T) (ops:Array Oper) (j:Nat) (want:Bool):Option (List GL):=
 match ops[j]? with
 | some p=>match p.dst with
   | some t=>match Xt st (.tmp t),st.get t with
     | n+1, .c (.k .bool b)=>some [Ab2 n want b]
     | n+1, .g k (.c (.k .bool b))=>some (Ab2 n want b::k)
     | _,_=>none
   | none=>none
 | none=>none
theorem Ot {H:Ax T} {st:Af T} {ops:Array Oper} {j:Nat} {want:Bool} {key:List GL} (hw:AI H st) (h:X1 st ops j want=some key):Ia st.toSt ops j want=some (Bb key)/\FE H st.nx key/\key ≠ []:=by
 unfold X1 at h;unfold Ia;split at h
 ·rename_i p hp;split at h
  ·rename_i t ht;simp only [hp,ht];have hg:=st.aaZ t;have hok:=Af.af2 hw t;have tg: ∀ n,Xt st (.tmp t)=n+1->n<st.nx/\H.v n=st.get t:=by
    intro n hn;unfold Xt at hn;simp only at hn;split at hn
    ·rename_i hb;have:=Xh hw.tm hn;grind [Af.get]
    ·cases hn
   split at h
   ·rename_i n b hn hv;injection h with h;subst h;obtain⟨q1,q2⟩:=tg n hn;rw [hv]at hg;refine⟨by rw [hg];rfl,fun l hl=>?_,by simp⟩;simp only [mem_singleton]at hl;subst hl;exact⟨q1,by show (_==_)=(eV (H.v n)==_);rw [q2,hv];rfl⟩
   ·rename_i n k b hn hv;injection h with h;subst h;obtain⟨q1,q2⟩:=tg n hn;rw [hv]at hg hok;simp only [DV.ok]at hok;refine⟨?_,fun l hl=>?_,by simp⟩
    ·rw [hg];simp only [DV.toV,DC.toC,Bk];cases k<;>grind [Bb,Ab2]
    ·rcases mem_cons.1 hl with rfl | hl
     ·exact⟨q1,by show (_==_)=(eV (H.v n)==_);rw [q2,hv];rfl⟩
     grind
   ·cases h
  ·cases h
 ·cases h
def Aev:DV T->Option Ah
 | .c x=>K7 x
 | _=>none
def dop {P:Program} {I:World->Prop} (Γ:List (CE T P I)) (ops:Array Oper) (o:Oper) (st:Af T):M (Af T):=
 match o.guard with
 | none=>match BH o.op with
   | .rd => .Q_ (L9 P [] st o.op) fun v=> .ret (st.put o.dst v)
   | .ef =>rE P st o
   | .call f xs=>cW Γ [] st f xs o.dst
   | .cut x=>match st.arg [] x with
     | some u=>match Aev u with
       | some id=>match st.frz id with
         | some s=> .Q_ (L9 P [] s o.op) fun v=> .ret (s.put o.dst v)
         | none=> .no
       | none=> .Q_ (L9 P [] st o.op) fun v=> .ret (st.put o.dst v)
     | none=> .no
   | .no => .no
 | some (j,want)=>match X1 st ops j want with
   | some key=>match BH o.op with
     | .rd => .Q_ (L9 P key st o.op) fun v=> .ret (st.put o.dst (.g key v))
     | .call f xs=>cW Γ key st f xs o.dst
     | _=> .no
   | none=> .no
section
variable {H:Ax T} {P:Program} {I:World->Prop} {Γ:List (CE T P I)} {st:Af T} {ops:Array Oper}
theorem Mf (H:Ax T) (n:Nat):FE H n []:=fun _ hl=>by cases hl
theorem Mg (hw:AI H st) {o:Oper} {Φ:Af T->Prop} (h: ∀ v:DV T,v.ok H st.nx->(D7 P st.toSt true o.op).1->(D7 P st.toSt true o.op).2=v.toV->Φ (st.put o.dst v)):Yl (M.Q_ (L9 P [] st o.op) fun v=> .ret (st.put o.dst v)) Φ:=
 Yl.Q_ (Ma hw (Mf _ _) o.op) fun v hv=>by obtain⟨a,b,c⟩:=hv rfl;exact Yl.ret (h v a b c)
theorem fh (hw:AI H st) (o:Oper):Yl (dop Γ ops o st) (uP H P I ops st o):=by
 unfold dop;split
 ·rename_i hg;have W: ∀ {a_:Af T},((∃ H',Nx H st H' a_)/\a_.pre=st.pre/\ ∀ K:St->Prop,K a_.toSt->qY P I o st.toSt K)->uP H P I ops st o a_:=fun⟨a,b,c⟩=>⟨a,b,fun K hK=>by unfold bY;rw [hg];exact c K hK⟩;split
  ·rename_i hk;refine Mg hw fun v hv h1 h2=>W ⟨Af.aai hw _ hv,AU _ _ _,fun K hK=> .inr ?_⟩;grind [Af.k_]
  ·rename_i hk;refine(Wt hw o).mono fun a_ h=>?_;obtain⟨h1,h2,h3,h4⟩:=h;refine W ⟨h1,h4,fun K hK=> .inl fun F a w G Q hI hR=>?_⟩;obtain⟨nx,w',G',q1,q2⟩:=(Rf hR h2).out;unfold Oper.wp Oper.upon;rw [q1];rcases q2 with ⟨v,rfl,q3⟩ | ⟨rfl,q3⟩
   ·exact⟨_,G',hK,q3.less h3⟩
   ·exact⟨_,G',hK,q3.less h3⟩
  ·rename_i f xs hk;exact(rL hw hk).mono fun a_ h=>W h
  ·rename_i x hk;split
   ·rename_i u hx;obtain⟨a1,a2,a3⟩:=HC hw hx;split
    ·rename_i id ho;have hu:u= .c (.c (.j_ id)):=by unfold Aev at ho;grind [EB]
     split
     ·rename_i s hs;obtain⟨⟨H1,hN⟩,h2,h3,h4⟩:=Af.afB hw hs;have aya:st.toSt.cutAt true x=s.toSt:=by grind [St.cutAt,DV.toV,DC.toC]
      refine Mg hN.ok fun v hv q1 q2=>W ⟨Af.H_ hN _ hv,by rw [AU];exact h4,fun K hK=> .inr ?_⟩;grind [Af.k_]
     ·exact Yl.no
    ·rename_i ho;have aya:st.toSt.cutAt true x=st.toSt:=by
      unfold St.cutAt;rw [a3];split
      ·rename_i id he;exfalso;cases u with
       | c y=>
         simp only [DV.toV,V.c.injEq]at he;exact MV ho id he
       | _=>simp [DV.toV]at he
      ·rfl
     refine Mg hw fun v hv q1 q2=>W ⟨Af.aai hw _ hv,AU _ _ _,fun K hK=> .inr ?_⟩;grind [Af.k_]
   ·exact Yl.no
  ·exact Yl.no
 ·rename_i j want hg;split
  ·rename_i key am6;obtain⟨g1,g2,g3⟩:=Ot hw am6;have W: ∀ {a_:Af T},((∃ H',Nx H st H' a_)/\a_.pre=st.pre/\ ∀ K:St->Prop,K a_.toSt->wpG P I o st.toSt (Bb key) K)->uP H P I ops st o a_:=fun⟨a,b,c⟩=>⟨a,b,fun K hK=>by unfold bY;rw [hg];simp only [g1];exact c K hK⟩;split
   ·rename_i hk;refine Yl.Q_ (Ma hw g2 o.op) fun v hv=>Yl.ret (W ⟨Me hw g2 _ (fun hc=>(hv hc).1),AU _ _ _,fun K hK=> .inr ?_⟩);rw [hk];refine⟨v.toV,fun hc=>(hv hc).2,?_⟩;grind [Af.k_,DV.toV]
   ·rename_i f xs hk;exact(rM hw hk g2 g3).mono fun a_ h=>W h
   ·exact Yl.no
  ·exact Yl.no
def Aew {P:Program} {I:World->Prop} (Γ:List (CE T P I)) (ops:Array Oper):List Oper->Af T->M (Af T)
 | [],st=> .ret st
 | o::rest,st=> .Q_ (dop Γ ops o st) fun a_=>Aew Γ ops rest a_
theorem yp: ∀ (l:List Oper) (st:Af T) (H:Ax T),AI H st->Yl (Aew Γ ops l st) (fun a_=>(∃ H',Nx H st H' a_)/\a_.pre=st.pre/\ ∀ K:St->Prop,K a_.toSt->DY P I ops l st.toSt K)
 | [],st,H,hw=>Yl.ret ⟨⟨H,Nx.refl hw⟩,rfl,fun _ hK=>hK⟩
 | o::rest,st,H,hw=>Yl.Q_ (fh hw o) fun s hs=>by obtain⟨⟨H1,h1⟩,h2,h3⟩:=hs;refine(yp rest s H1 h1.ok).mono fun s' hs'=>?_;obtain⟨⟨H2,k1⟩,k2,k3⟩:=hs';exact⟨⟨H2,h1.trans k1⟩,k2.trans h2,fun K hK=>h3 _ (k3 K hK)⟩
def fi {P:Program} {I:World->Prop} (Γ:List (CE T P I)) (key:List GL) (st:Af T) (f:FuncId) (xs:List Operand):M (DV T):=
 match Je st key xs with
 | some vs=>match MU st vs with
   | some ws=>match Qv f ws Γ with
     | some ⟨e,x⟩=>Tf (e.rs.all (TI T)) (.opt (gk key (e.run x)) fun r=> .ret (TG e.rs r))
     | none=> .no
   | none=> .no
 | none=> .no
def Ab3 {P:Program} {I:World->Prop} (Γ:List (CE T P I)) (ops:Array Oper) (o:Oper) (st:Af T):M (Af T):=
 match o.guard with
 | none=>match BH o.op with
   | .rd => .Q_ (L9 P [] st o.op) fun v=> .ret (st.put o.dst v)
   | .call f xs=> .Q_ (fi Γ [] st f xs) fun v=> .ret (st.put o.dst v)
   | .cut _=> .Q_ (L9 P [] st o.op) fun v=> .ret (st.put o.dst v)
   | _=> .no
 | some (j,want)=>match X1 st ops j want with
   | some key=>match BH o.op with
     | .rd => .Q_ (L9 P key st o.op) fun v=> .ret (st.put o.dst (.g key v))
     | .call f xs=> .Q_ (fi Γ key st f xs) fun v=> .ret (st.put o.dst (.g key v))
     | .cut _=> .Q_ (L9 P key st o.op) fun v=> .ret (st.put o.dst (.g key v))
     | _=> .no
   | none=> .no
theorem cX {key:List GL} (hw:AI H st) (hk:FE H st.nx key) {f:FuncId} {xs:List Operand}:
 Yl (fi Γ key st f xs) (fun v=>(∀ n,v.ok H n)/\v.toV.flat=true/\(Bb key=true->(st.toSt.args (Bb key) xs).1/\Cq ((st.toSt.args (Bb key) xs).2.map (BF st.toSt))=true)/\(Bb key=true->BV P I f ((st.toSt.args (Bb key) xs).2.map (BF st.toSt)) (· =v.toV))):=by
 unfold fi;split
 ·rename_i vs hvs;split
  ·rename_i ws hws;split
   ·rename_i e x hx;obtain⟨he,hx⟩:=GA hx;refine Yl.Tf fun hf=>Yl.opt fun r hr=>Yl.ret ?_;have hs:(Be vs).map (BF st.toSt)=Gz e.ps x:=by rw [GP hws,hx]
    rw [TJ _ hvs,hs,Oq];refine⟨fun n=>RG _ _,by rw [Mc];exact hf,fun hc=>⟨(Dq hw hk hc hvs).2.1,Kq _ _⟩,fun hc=>?_⟩;have hp:=e.ok x r (Rv hr hc);grind
   ·exact Yl.no
  ·exact Yl.no
 ·exact Yl.no
theorem yq (hw:AI H st) (o:Oper):Yl (Ab3 Γ ops o st) (fun a_=>(∃ H',Nx H st H' a_)/\a_.pre=st.pre/\ ∀ K:St->Prop,K a_.toSt->wqO P I ops o st.toSt K):=by
 unfold Ab3;split
 ·rename_i hg;have W: ∀ {a_:Af T},((∃ H',Nx H st H' a_)/\a_.pre=st.pre/\ ∀ K:St->Prop,K a_.toSt->wq1 P I o st.toSt K)->(∃ H',Nx H st H' a_)/\a_.pre=st.pre/\ ∀ K:St->Prop,K a_.toSt->wqO P I ops o st.toSt K:=(by grind [wqO]);split
  ·rename_i hk;refine Mg hw fun v hv h1 h2=>W ⟨Af.aai hw _ hv,AU _ _ _,fun K hK=>?_⟩;grind [wq1,Af.k_]
  ·rename_i f xs hk;refine Yl.Q_ (cX hw (Mf _ _)) fun v hv=>Yl.ret (W ⟨Af.aai hw _ (hv.1 _),AU _ _ _,fun K hK=>?_⟩);obtain⟨q1,q2,q3,q4⟩:=hv;unfold wq1;rw [hk];exact⟨(q3 rfl).1,(q3 rfl).2,v.toV,q2,q4 rfl,by grind [Af.k_]⟩
  ·rename_i x hk;refine Mg hw fun v hv h1 h2=>W ⟨Af.aai hw _ hv,AU _ _ _,fun K hK=>?_⟩;grind [wq1,Af.k_]
  ·exact Yl.no
 ·rename_i j want hg;split
  ·rename_i key am6;obtain⟨g1,g2,g3⟩:=Ot hw am6;have W: ∀ {a_:Af T},((∃ H',Nx H st H' a_)/\a_.pre=st.pre/\ ∀ K:St->Prop,K a_.toSt->wqG P I o st.toSt (Bb key) K)->(∃ H',Nx H st H' a_)/\a_.pre=st.pre/\ ∀ K:St->Prop,K a_.toSt->wqO P I ops o st.toSt K:=(by simp_all [wqO]);split
   ·rename_i hk;refine Yl.Q_ (Ma hw g2 o.op) fun v hv=>Yl.ret (W ⟨Me hw g2 _ (fun hc=>(hv hc).1),AU _ _ _,fun K hK=>?_⟩);unfold wqG;rw [hk];refine⟨v.toV,fun hc=>(hv hc).2,?_⟩;grind [Af.k_,DV.toV]
   ·rename_i f xs hk;refine Yl.Q_ (cX hw g2) fun v hv=>Yl.ret (W ⟨Me hw g2 _ (fun _=>hv.1 _),AU _ _ _,fun K hK=>?_⟩);grind [wqG,Af.k_,DV.toV]
   ·rename_i x hk;refine Yl.Q_ (Ma hw g2 o.op) fun v hv=>Yl.ret (W ⟨Me hw g2 _ (fun hc=>(hv hc).1),AU _ _ _,fun K hK=>?_⟩);unfold wqG;rw [hk];refine⟨v.toV,fun hc=>(hv hc).2,?_⟩;grind [Af.k_,DV.toV]
   ·exact Yl.no
  ·exact Yl.no
def uQ {P:Program} {I:World->Prop} (Γ:List (CE T P I)) (ops:Array Oper):List Oper->Af T->M (Af T)
 | [],st=> .ret st
 | o::rest,st=> .Q_ (Ab3 Γ ops o st) fun a_=>uQ Γ ops rest a_
theorem jO: ∀ (l:List Oper) (st:Af T) (H:Ax T),AI H st->Yl (uQ Γ ops l st) (fun a_=>(∃ H',Nx H st H' a_)/\a_.pre=st.pre/\ ∀ K:St->Prop,K a_.toSt->bZ P I ops l st.toSt K)
 | [],st,H,hw=>Yl.ret ⟨⟨H,Nx.refl hw⟩,rfl,fun _ hK=>hK⟩
 | o::rest,st,H,hw=>Yl.Q_ (yq hw o) fun s hs=>by obtain⟨⟨H1,h1⟩,h2,h3⟩:=hs;refine(jO rest s H1 h1.ok).mono fun s' hs'=>?_;obtain⟨⟨H2,k1⟩,k2,k3⟩:=hs';exact⟨⟨H2,h1.trans k1⟩,k2.trans h2,fun K hK=>h3 _ (k3 K hK)⟩
end
end Go.PL
namespace Go.PL
open Go Go.RowKit
variable {T:Bm}
def X2 (v v':V):Prop:= ∀ (w:World) (G:AF) (u:Value),Ab w G v u->Ab w G v' u
def ae (c c':C):Prop:= ∀ (w:World) (G:AF) (u:Value),Ae w G c u->Ae w G c' u
def EF:List C->List C->Prop
 | [],[]=>True
 | c::cs,d::ds=>ae c d/\EF cs ds
 | _,_=>False
theorem ae.refl (c:C):ae c c:=fun _ _ _ h=>h
theorem X2.refl (c:V):X2 c c:=fun _ _ _ h=>h
theorem ae.ae6 {c d:C} (h:Hj c=d):ae c d:=fun _ _ _ hr=>h▸JC hr
theorem EF.length: ∀ {cs ds:List C},EF cs ds->cs.length=ds.length
 | [],[],_=>rfl
 | [],_::_,h=>h.elim
 | _::_,[],h=>h.elim
 | c::cs,d::ds,h=>by simp [EF.length h.2]
theorem EF.append: ∀ {a b x y:List C},EF a b->EF x y->EF (a++x) (b++y)
 | [],[],_,_,_,h=>h
 | [],_::_,_,_,h,_=>h.elim
 | _::_,[],_,_,h,_=>h.elim
 | c::cs,d::ds,_,_,h,k=>⟨h.1,EF.append h.2 k⟩
theorem EF.ae6: ∀ {cs ds:List C},cs.map Hj=ds->EF cs ds
 | [],ds,h=>by simp at h;subst h;trivial
 | c::cs,ds,h=>by subst h;exact⟨ae.ae6 rfl,EF.ae6 rfl⟩
theorem EF.refl: ∀ cs:List C,EF cs cs
 | []=>trivial
 | c::cs=>⟨ae.refl c,EF.refl cs⟩
theorem Al.imp {w:World} {G:AF}: ∀ {cs ds:List C} {b off:Nat},EF cs ds->Al w G cs b off->Al w G ds b off
 | [],[],_,_,_,h=>h
 | [],_::_,_,_,h,_=>h.elim
 | _::_,[],_,_,h,_=>h.elim
 | c::cs,d::ds,b,off,h,hr=>by simp only [Al]at hr ⊢;obtain⟨⟨v,h1,h2⟩,h3⟩:=hr;exact⟨⟨v,h1,h.1 _ _ _ h2⟩,Al.imp h.2 h3⟩
theorem Ai.imp {w:World} {G:AF}: ∀ {cs ds:List C} {vs:List Value},EF cs ds->Ai w G cs vs->Ai w G ds vs
 | [],[],_,_,h=>h
 | [],_::_,_,h,_=>h.elim
 | _::_,[],_,h,_=>h.elim
 | c::cs,d::ds,[],_,hr=>by simp only [Ai]at hr
 | c::cs,d::ds,v::vs,h,hr=>by simp only [Ai]at hr ⊢;exact⟨h.1 _ _ _ hr.1,Ai.imp h.2 hr.2⟩
structure Wkn (st a_:St):Prop where
 len:a_.tm.length=st.tm.length
 tm: ∀ i,X2 (st.tm.getD i .undef) (a_.tm.getD i .undef)
 so: ∀ e'∈a_.so,e'∈st.so\/ ∃ cs cs',(⟨e'.id,none,cs,false⟩:Au)∈st.so/\e'=⟨e'.id,none,cs',false⟩/\EF cs cs'/\eg cs=false
 nd:(a_.so.map (·.id)).Nodup
 gh:a_.gh=st.gh
 pre:a_.pre=st.pre
theorem R.wkn {F:Fr} {st a_:St} {a:Act} {w:World} {G:AF} (h:R F st a w G) (k:Wkn st a_):R F a_ a w G:={
 dfr:=h.dfr
 size:=by rw [k.len];exact h.size
 w_:=fun i=>k.tm i _ _ _ (h.w_ i)
 I_:=by rw [k.gh];exact h.I_
 store:=fun e he=>by
  rcases k.so e he with q | ⟨cs,cs',q1,q2,q3,q4⟩
  ·exact h.store e q
  ·have:=h.store _ q1;rw [q2];simp only [Ba]at this ⊢;obtain⟨b,h1,h2⟩:=this;obtain⟨Ty,cur,h3,h4,h5⟩:=h2.cells q4;exact⟨b,h1, .inr ⟨Ty,cur,h3,by rw [h4,q3.length],h5.imp q3⟩⟩
 deep:=fun e he=>by
  rcases k.so e he with q | ⟨cs,cs',q1,q2,q3,q4⟩
  ·exact h.deep e q
  ·have:=h.deep _ q1;rw [q2];exact⟨this.1,fun hd=>by have:=(this.2 hd).1;cases this⟩
 y_:=fun e he hp=>by
  rcases k.so e he with q | ⟨cs,cs',q1,q2,q3,q4⟩
  ·exact h.y_ e q hp
  grind
 nodup:=k.nd
 inj:=h.inj,lt:=h.lt,new:=h.new,wr:=h.wr,aaJ:=h.aaJ,inv:=h.inv,aae:=h.aae,os:=h.os,tape:=h.tape,output:=h.output,v_:=h.v_,ext:=h.ext}
theorem Wk.wkn {st a_:St} (k:Wkn st a_):Wk st a_:=fun _ _ _ G hR=>⟨G,hR.wkn k⟩
inductive Sg where
 | v (t:VT)
 | c (x:C)
inductive VSp where
 | c (s:Sg)
 | agg (l:List Sg)
inductive ESp where
 | box (l:List Sg)
 | row (E:Nat)
 | deep (E:Nat)
structure Iy where
 ks:List Nat
 vs:List (Nat×VSp)
 ke:List Ah
 es:List (Ah×ESp)
def Sg.ts:List Sg->List VT
 | []=>[]
 | .v t::r=>t::Sg.ts r
 | .c _::r=>Sg.ts r
def VSp.ts:VSp->List VT
 | .c s=>Sg.ts [s]
 | .agg l=>Sg.ts l
def ESp.ts:ESp->List VT
 | .box l=>Sg.ts l
 | .row E=>[.k (.t_ E)]
 | .deep E=>[.k (.int .i64), .k (.t_ E)]
def Aex:List (Nat×VSp)->List VT
 | []=>[]
 | (_,p)::r=>p.ts++Aex r
def Aey:List (Ah×ESp)->List VT
 | []=>[]
 | (_,p)::r=>p.ts++Aey r
def Iy.ts (sh:Iy):List VT:=Aex sh.vs++Aey sh.es
def okC (x c:C):Bool:=match x,c with
 | .any,_=>true
 | .j_ i, .j_ j=>Bc i j
 | .ptr i o, .ptr j o'=>Bc i j&&Nat.beq o o'
 | .ab_, .ab_ =>true
 | .aag, .aag =>true
 | .held, .held =>true
 | .L_, .L_ =>true
 | .fn f, .fn g=>Nat.beq f g
 | _,_=>false
theorem yr {x c:C} (h:okC x c=true):ae c x:=by
 unfold okC at h;split at h
 ·intro w G u hr;simp only [Ae];exact hr.one
 all_goals simp_all [AP,ae.refl]
def K8:List Sg->List (DC T)->Option (List (DV T)×List (DC T))
 | [],cs=>some ([],cs)
 | .c x::r,c::cs=>match okC x c.toC with
   | true=>K8 r cs
   | false=>none
 | .v (.k _)::r,c::cs=>match K8 r cs with
   | some (vs,ds)=>some (.c c::vs,ds)
   | none=>none
 | .v (.s E)::r,cs=>match Nat.ble (T.sz E) cs.length,K8 r (cs.drop (T.sz E))with
   | true,some (vs,ds)=>some (.agg (cs.take (T.sz E))::vs,ds)
   | _,_=>none
 | _,_=>none
def GB:List Sg->List (DV T)->Option (List (DC T)×List (DV T))
 | [],vs=>some ([],vs)
 | .c x::r,vs=>match GB r vs with
   | some (cs,us)=>some (.c x::cs,us)
   | none=>none
 | .v _::r, .c y::vs=>match GB r vs with
   | some (cs,us)=>some (y::cs,us)
   | none=>none
 | .v _::r, .agg ds::vs=>match GB r vs with
   | some (cs,us)=>some (ds++cs,us)
   | none=>none
 | _::_,_=>none
def yt (v v':DV T):Prop:=(∃ c c',v= .c c/\v'= .c c'/\Hj c.toC=c'.toC/\c'.ok)\/(∃ cs cs',v= .agg cs/\v'= .agg cs'/\(Av cs).map Hj=Av cs'/\Cl cs')
inductive aen {α β:Type} (P:α->β->Prop):List α->List β->Prop
 | nil:aen P [] []
 | cons {a b l m}:P a b->aen P l m->aen P (a::l) (b::m)
theorem aen.adB {α β:Type} {P:α->β->Prop}: ∀ {a b:List α} {m:List β},aen P (a++b) m-> ∃ x y,m=x++y/\aen P a x/\aen P b y
 | [],b,m,h=>⟨[],m,rfl, .nil,h⟩
 | c::a,b,m,h=>by
   cases h with
   | cons h1 h2=>
     obtain⟨x,y,e,p,q⟩:=aen.adB h2;subst e;exact⟨_::x,y,rfl, .cons h1 p,q⟩
theorem HE: ∀ {l:List Sg} {cs ds:List (DC T)} {vs vs':List (DV T)} {cs':List (DC T)} {us us':List (DV T)},K8 l cs=some (vs,ds)->aen yt vs vs'->GB l (vs'++us)=some (cs',us')->
 us'=us/\EF (Av cs) (Av cs'++Av ds)/\Cl cs'
 | [],cs,ds,vs,vs',cs',us,us',h,hw,hi=>by
   simp only [K8,injEq,Prod.mk.injEq]at h;obtain⟨rfl,rfl⟩:=h;cases hw
   simp only [GB,nil_append,injEq,Prod.mk.injEq]at hi;obtain⟨rfl,rfl⟩:=hi;exact⟨rfl,by grind [Av,EF.refl],by simp [Cl]⟩
 | .c x::r,c::cs,ds,vs,vs',cs',us,us',h,hw,hi=>by
   simp only [K8]at h;split at h
   ·rename_i ho;simp only [GB]at hi;split at hi
    ·rename_i cs1 us1 h1;simp only [injEq,Prod.mk.injEq]at hi;obtain⟨rfl,rfl⟩:=hi;obtain⟨a,b,d⟩:=HE h hw h1;refine⟨a,?_,by simp_all [Cl,DC.ok]⟩;simp only [Av,cons_append,DC.toC];exact⟨yr ho,b⟩
    ·cases hi
   ·cases h
 | .v (.k kd)::r,c::cs,ds,vs,vs',cs',us,us',h,hw,hi=>by
   simp only [K8]at h;split at h
   ·rename_i vs1 ds1 h1;simp only [injEq,Prod.mk.injEq]at h;obtain⟨rfl,rfl⟩:=h;cases hw with
    | cons p q=>
      rename_i b m;rcases p with ⟨c0,c',e1,e2,e3,e4⟩ | ⟨_,_,e1,_⟩
      ·injection e1 with e1;subst e1 e2;simp only [cons_append,GB]at hi;split at hi
       ·rename_i cs1 us1 h2;simp only [injEq,Prod.mk.injEq]at hi;obtain⟨rfl,rfl⟩:=hi;obtain⟨a,b,d⟩:=HE h1 q h2;refine⟨a,?_,by grind [Cl]⟩;simp only [Av,cons_append];exact⟨ae.ae6 e3,b⟩
       ·cases hi
      ·cases e1
   ·cases h
 | .v (.s E)::r,cs,ds,vs,vs',cs',us,us',h,hw,hi=>by
   simp only [K8]at h;split at h
   ·rename_i vs1 ds1 hb h1;simp only [injEq,Prod.mk.injEq]at h;obtain⟨rfl,rfl⟩:=h;cases hw with
    | cons p q=>
      rename_i b m;rcases p with ⟨_,_,e1,_⟩ | ⟨c0,c',e1,e2,e3,e4⟩
      ·cases e1
      ·injection e1 with e1;subst e1 e2;simp only [cons_append,GB]at hi;split at hi
       ·rename_i cs1 us1 h2;simp only [injEq,Prod.mk.injEq]at hi;obtain⟨rfl,rfl⟩:=hi;obtain⟨a,b,d⟩:=HE h1 q h2;refine⟨a,?_,Df e4 d⟩;have e:Av cs=Av (cs.take (T.sz E))++Av (cs.drop (T.sz E)):=by rw [<-CT,List.take_append_drop]
        rw [e,CT,append_assoc];exact(EF.ae6 e3).append b
       ·cases hi
   ·cases h
 | .c _::_,[],_,_,_,_,_,_,h,_,_=>by simp [K8]at h
 | .v (.k _)::_,[],_,_,_,_,_,_,h,_,_=>by simp [K8]at h
 | .v (.f _)::_,_,_,_,_,_,_,_,h,_,_=>by simp [K8]at h
def Ab4:VSp->DV T->Option (List (DV T))
 | .c s, .c x=>match K8 [s] [x]with
   | some (vs,[])=>some vs
   | _=>none
 | .agg l, .agg cs=>match K8 l cs with
   | some (vs,[])=>some vs
   | _=>none
 | _,_=>none
def rN:VSp->List (DV T)->Option (DV T×List (DV T))
 | .c s,vs=>match GB [s] vs with
   | some ([c],us)=>some (.c c,us)
   | _=>none
 | .agg l,vs=>match GB l vs with
   | some (cs,us)=>some (.agg cs,us)
   | none=>none
theorem rO {p:VSp} {v:DV T} {vs vs' us us':List (DV T)} {v':DV T} (h:Ab4 p v=some vs) (hw:aen yt vs vs') (hi:rN p (vs'++us)=some (v',us')):us'=us/\X2 v.toV v'.toV:=by
 unfold Ab4 at h;split at h
 ·rename_i s x;split at h
  ·rename_i vs1 h1;injection h with h;subst h;simp only [rN]at hi;split at hi
   ·rename_i c us1 h2;simp only [injEq,Prod.mk.injEq]at hi;obtain⟨rfl,rfl⟩:=hi;obtain⟨a,b,d⟩:=HE h1 hw h2;refine⟨a,?_⟩;simp only [Av,append_nil,EF,and_true]at b;intro w G u hr;simp only [DV.toV,Ab]at hr ⊢;exact b _ _ _ hr
   ·cases hi
  ·cases h
 ·rename_i l cs;split at h
  ·rename_i vs1 h1;injection h with h;subst h;simp only [rN]at hi;split at hi
   ·rename_i c us1 h2;simp only [injEq,Prod.mk.injEq]at hi;obtain⟨rfl,rfl⟩:=hi;obtain⟨a,b,d⟩:=HE h1 hw h2;refine⟨a,?_⟩;simp only [Av,append_nil]at b;intro w G u hr;simp only [DV.toV,Ab]at hr ⊢;obtain⟨arr,e,hr⟩:=hr;exact⟨arr,e,hr.imp b⟩
   ·cases hi
  ·cases h
 ·cases h
def rP (v:DV T):Prop:= ∀ (H:Ax T) (n:Nat),v.ok H n
theorem Mh: ∀ {l:List Sg} {vs us:List (DV T)} {cs:List (DC T)},(∀ v∈vs,rP v)->GB l vs=some (cs,us)->Cl cs/\ ∀ v∈us,rP v
 | [],vs,us,cs,hv,h=>by simp only [GB,injEq,Prod.mk.injEq]at h;obtain⟨rfl,rfl⟩:=h;grind [Cl]
 | .c x::r,vs,us,cs,hv,h=>by
   simp only [GB]at h;split at h
   ·rename_i cs1 us1 h1;simp only [injEq,Prod.mk.injEq]at h;obtain⟨rfl,rfl⟩:=h;obtain⟨a,b⟩:=Mh hv h1;simp_all [Cl,DC.ok]
   ·cases h
 | .v t::r,vs,us,cs,hv,h=>by
   match vs,hv,h with
   | .c y::vs,hv,h=>
     simp only [GB]at h;split at h
     ·rename_i cs1 us1 h1;simp only [injEq,Prod.mk.injEq]at h;obtain⟨rfl,rfl⟩:=h;obtain⟨a,b⟩:=Mh (fun v hm=>hv v (by simp [hm])) h1;have:=hv (.c y) (by simp) ⟨fun _=> .u,fun _=>⟨[],0, .box []⟩⟩ 0;simp only [DV.ok]at this;exact⟨by simp only [Cl];exact⟨this,a⟩,b⟩
     ·cases h
   | .agg ds::vs,hv,h=>
     simp only [GB]at h;split at h
     ·rename_i cs1 us1 h1;simp only [injEq,Prod.mk.injEq]at h;obtain⟨rfl,rfl⟩:=h;obtain⟨a,b⟩:=Mh (fun v hm=>hv v (by simp [hm])) h1;have:=hv (.agg ds) (by simp) ⟨fun _=> .u,fun _=>⟨[],0, .box []⟩⟩ 0;simp only [DV.ok]at this;exact⟨Df this a,b⟩
     ·cases h
   | [],_,h=>simp [GB]at h
   | .tup _::_,_,h=>simp [GB]at h
   | .g _ _::_,_,h=>simp [GB]at h
   | .u ::_,_,h=>simp [GB]at h
theorem yu {p:VSp} {vs us:List (DV T)} {v:DV T} (hv: ∀ v∈vs,rP v) (h:rN p vs=some (v,us)):rP v/\ ∀ v∈us,rP v:=by
 unfold rN at h;split at h
 ·split at h
  ·rename_i c us1 h1;simp only [injEq,Prod.mk.injEq]at h;obtain⟨rfl,rfl⟩:=h;obtain⟨a,b⟩:=Mh hv h1;simp only [Cl,and_true]at a;exact⟨fun H n=>by simp only [DV.ok];exact a,b⟩
  ·cases h
 ·split at h
  ·rename_i c us1 h1;simp only [injEq,Prod.mk.injEq]at h;obtain⟨rfl,rfl⟩:=h;obtain⟨a,b⟩:=Mh hv h1;exact⟨fun H n=>by simp only [DV.ok];exact a,b⟩
  ·cases h
end Go.PL
namespace Go.PL
open Go Go.RowKit
variable {T:Bm}
def fj (kd:Kd) (v:DV T):Option (Pa T.den kd):=match asC v with
 | some x=>Iq true kd x
 | none=>none
def fk (E:Nat) (v:DV T):Option (T.den E):=match asA v with
 | some cs=>tp true E cs
 | none=>none
def X3:(t:VT)->DV T->Option (ED T t)
 | .k kd,v=>fj kd v
 | .s E,v=>fk E v
 | .f _,_=>none
theorem fl {kd:Kd} {v:DV T} {x:Pa T.den kd} (h:fj kd v=some x):yt v (.c (.k kd x)):=by
 unfold fj at h;split at h
 ·rename_i y hy;exact .inl ⟨y,_,XQ hy,rfl,(CK h).1,by simp only [DC.ok]⟩
 ·cases h
theorem fo {E:Nat} {v:DV T} {x:T.den E} (h:fk E v=some x):yt v (.agg (eW E x)):=by
 unfold fk at h;split at h
 ·rename_i y hy;exact .inr ⟨y,_,XR hy,rfl,by grind [GO,Ir],MR E x⟩
 ·cases h
theorem Ve {t:VT} {v:DV T} {x:ED T t} (h:X3 t v=some x):yt v (PN t x):=by
 cases t with
 | k kd=>exact fl h
 | s E=>exact fo h
 | f g=>cases h
def pL {α β:Type}:Option α->Option β->Option (α×β)
 | some x,some y=>some (x,y)
 | _,_=>none
theorem nB {α β:Type} {a:Option α} {b:Option β} {x:α×β} (h:pL a b=some x):a=some x.1/\b=some x.2:=by
 cases a<;>cases b<;>simp [pL]at h
 grind
def fp:(ts:List VT)->List (DV T)->Option (RT T ts)
 | [],[]=>some ()
 | [t],[v]=>X3 t v
 | t::u::ts,v::vs=>pL (X3 t v) (fp (u::ts) vs)
 | _,_=>none
theorem Vf: ∀ {ts:List VT} {vs:List (DV T)} {x:RT T ts},fp ts vs=some x->aen yt vs (CL ts x)
 | [],[],x,_=> .nil
 | [],_::_,x,h=>by cases (show (none:Option (RT T []))=some x from h)
 | [t],[v],x,h=> .cons (Ve (show X3 t v=some x from h)) .nil
 | [t],[],x,h=>by cases (show (none:Option (RT T [t]))=some x from h)
 | [t],v::w::vs,x,h=>by cases (show (none:Option (RT T [t]))=some x from h)
 | t::u::ts,[],x,h=>by cases (show (none:Option (RT T (t::u::ts)))=some x from h)
 | t::u::ts,v::vs,x,h=>by obtain⟨h1,h2⟩:=nB (show pL (X3 t v) (fp (u::ts) vs)=some x from h);exact .cons (Ve h1) (Vf h2)
theorem EG (ts:List VT) (x:RT T ts): ∀ v∈CL ts x,rP v:=fun v hv H n=>Oc.1 (TH (H:=H) (nx:=n) ts x) v hv
def Ou (tm:Tm T):List (Nat×VSp)->Option (List (DV T))
 | []=>some []
 | (s,p)::r=>match Ab4 p (lk tm s),Ou tm r with
   | some a,some b=>some (a++b)
   | _,_=>none
def Iz:List (Nat×VSp)->List (DV T)->Af T->Option (Af T×List (DV T))
 | [],vs,st=>some (st,vs)
 | (s,p)::r,vs,st=>match rN p vs with
   | some (v,us)=>Iz r us (st.put (some s) v)
   | none=>none
theorem K9 {H:Ax T} {st0:Af T}: ∀ {l:List (Nat×VSp)} {vs us:List (DV T)} {st a_:Af T} {H1:Ax T},Nx H st0 H1 st->(∀ v∈vs,rP v)->Iz l vs st=some (a_,us)->
 (∃ H',Nx H st0 H' a_)/\(∀ v∈us,rP v)/\a_.so=st.so/\a_.gh=st.gh/\a_.pre=st.pre/\a_.m=st.m
 | [],vs,us,st,a_,H1,hn,hv,h=>by simp only [Iz,injEq,Prod.mk.injEq]at h;grind
 | (s,p)::r,vs,us,st,a_,H1,hn,hv,h=>by
   simp only [Iz]at h;split at h
   ·rename_i v us1 h1;obtain⟨a,b⟩:=yu hv h1;obtain⟨H2,h2⟩:=Af.H_ hn (some s) (a H1 _);obtain⟨c1,c2,c3,c4,c5,c6⟩:=K9 h2 b h;exact⟨c1,c2,c3,c4,c5,c6⟩
   ·cases h
theorem uR (st:Af T) (s i:Nat) (v:DV T):lk (st.put (some s) v).tm i=if s=i then v else lk st.tm i:=by
 simp only [Af.put,lk];by_cases h:s=i
 ·simp_all
 ·rw [if_neg h];grind [eq_of_beq_eq_true]
theorem cY {tm:Tm T}: ∀ {l:List (Nat×VSp)} {vs vs' us us':List (DV T)} {st a_:Af T},Ou tm l=some vs->aen yt vs vs'->Iz l (vs'++us) st=some (a_,us')->(∀ i,X2 (lk tm i).toV (lk st.tm i).toV)->
 us'=us/\ ∀ i,X2 (lk tm i).toV (lk a_.tm i).toV
 | [],vs,vs',us,us',st,a_,h,hw,hi,hs=>by
   simp only [Ou,injEq]at h;subst h;cases hw
   simp only [Iz,nil_append,injEq,Prod.mk.injEq]at hi;grind
 | (s,p)::r,vs,vs',us,us',st,a_,h,hw,hi,hs=>by
   simp only [Ou]at h;split at h
   ·rename_i a b h1 h2;injection h with h;subst h;obtain⟨x,y,rfl,k1,k2⟩:=aen.adB hw;simp only [Iz]at hi;split at hi
    ·rename_i v us1 h3;rw [append_assoc]at h3;obtain⟨e,hv⟩:=rO h1 k1 h3;subst e;refine cY h2 k2 hi fun i=>?_;rw [uR];split
     ·rename_i e;subst e;exact hv
     ·exact hs i
    ·cases hi
   ·cases h
def Ab5 (l:List (DE T)) (id:Ah) (p:ESp):Option (List (DV T)):=match Hk l id,p with
 | some e, .box sg=>match e.x with
   | .box cs=>match pz cs,K8 sg cs with
     | false,some (vs,[])=>some vs
     | _,_=>none
   | _=>none
 | some e, .row E0=>match e.x with
   | .row E l=>match Nat.beq E E0 with
     | true=>some [.c (.k (.t_ E) l)]
     | false=>none
   | _=>none
 | some e, .deep E0=>match e.x with
   | .deep E n l none=>match Nat.beq E E0 with
     | true=>some [.c (.k (.int .i64) n), .c (.k (.t_ E) l)]
     | false=>none
   | _=>none
 | none,_=>none
def nC:ESp->List (DV T)->Option (DX T×List (DV T))
 | .box sg,vs=>match GB sg vs with
   | some (cs,us)=>some (.box cs,us)
   | none=>none
 | .row E0, .c (.k (.t_ E) l)::vs=>match Nat.beq E E0 with
   | true=>some (.row E l,vs)
   | false=>none
 | .deep E0, .c (.k (.int .i64) n):: .c (.k (.t_ E) l)::vs=>match Nat.beq E E0 with
   | true=>some (.deep E n l none,vs)
   | false=>none
 | _,_=>none
def dnC (T:Bm):Kd->C->C
 | .t_ F, .sl n cs=> .isl F (T.sz F) n cs
 | _,c=>c
def Ab6 (T:Bm):List Kd->List C->List C
 | k::ks,c::cs=>dnC T k c::Ab6 T ks cs
 | _,_=>[]
theorem X4: ∀ (ks:List Kd) (y:DK T.den ks),BX T ks y=Ab6 T ks (BG T.enc ks y)
 | [],_=>rfl
 | k::ks,y=>by simp only [BX,BG,Ab6];rw [X4 ks y.2];cases k<;>rfl
theorem yv {E:Nat} {x y:T.den E} (h:T.enc E x=T.enc E y):T.aaV E x=T.aaV E y:=by unfold Bm.aaV;rw [X4,X4,T.aaT,T.aaT,h]
theorem cZ {E:Nat} {n:Int}: ∀ {l m:List (T.den E)} {k:Int},l.length=m.length->l.flatMap (T.enc E)=m.flatMap (T.enc E)->AC T E n k l=AC T E n k m
 | [],[],_,_,_=>rfl
 | [],_::_,_,h,_=>by simp at h
 | _::_,[],_,h,_=>by simp at h
 | x::l,y::m,k,h,q=>by simp only [flatMap_cons]at q;obtain⟨q1,q2⟩:=List.append_inj q (by rw [AS,AS]);simp only [AC];rw [q1,yv q1,cZ (by simpa using h) q2]
def RI (l:List (DE T)):List (Ah×ESp)->Option (List (DV T))
 | []=>some []
 | (id,p)::r=>match Ab5 l id p,RI l r with
   | some a,some b=>some (a++b)
   | _,_=>none
def Af.arn (st:Af T) (id:Ah) (x:DX T):Af T:={st with so:=⟨id,st.nx,x⟩::st.so,nx:=st.nx+1}
def jP (id:Ah):List (DE T)->Bool
 | []=>false
 | e::r=>match Bc e.id id with
   | true=>true
   | false=>jP id r
theorem X5 {id:Ah}: ∀ {l:List (DE T)},jP id l=false-> ∀ e∈l,e.id ≠ id
 | [],_,_,h=>by cases h
 | a::r,h,e,he=>by
   unfold jP at h;split at h
   ·cases h
   ·rename_i hb;rcases mem_cons.1 he with rfl | he
    ·intro q;rw [AP.2 q]at hb;cases hb
    ·exact X5 h e he
def Jm:List (Ah×ESp)->List (DV T)->Af T->Option (Af T×List (DV T))
 | [],vs,st=>some (st,vs)
 | (id,p)::r,vs,st=>match nC p vs,jP id st.so with
   | some (x,us),false=>Jm r us (st.arn id x)
   | _,_=>none
theorem yw {p:ESp} {vs us:List (DV T)} {x:DX T} (hv: ∀ v∈vs,rP v) (h:nC p vs=some (x,us)):x.ok/\ ∀ v∈us,rP v:=by
 unfold nC at h;split at h
 ·split at h
  ·rename_i cs us1 h1;simp only [injEq,Prod.mk.injEq]at h;obtain⟨rfl,rfl⟩:=h;exact Mh hv h1
  ·cases h
 ·split at h
  ·simp only [injEq,Prod.mk.injEq]at h;obtain⟨rfl,rfl⟩:=h;exact⟨trivial,(by grind)⟩
  ·cases h
 ·split at h
  ·simp only [injEq,Prod.mk.injEq]at h;obtain⟨rfl,rfl⟩:=h;exact⟨trivial,(by grind)⟩
  ·cases h
 ·cases h
theorem yx {H H1:Ax T} {st0 st:Af T} (hn:Nx H st0 H1 st) {id:Ah} {x:DX T} (hx:x.ok) (hid:jP id st.so=false): ∃ H',Nx H st0 H' (st.arn id x):=by
 have he:=Da.Tp H1 st.nx ⟨id,st.nx,x⟩;refine⟨H1.Tp st.nx ⟨id,st.nx,x⟩,hn.trans ⟨he,le_succ _,?_,?_,?_,?_⟩⟩
 ·exact B3 he (le_succ _) hn.ok.tm
 ·exact fun f hf=>B3 he (le_succ _) (hn.ok.gh f hf)
 ·intro e hm;rcases mem_cons.1 hm with rfl | hm
  ·exact⟨Nat.lt_succ_self _,by simp [Ax.Tp],hx⟩
  ·exact FG he (le_succ _) hn.ok.so e hm
 ·simp only [Af.arn,map_cons];refine nodup_cons.2 ⟨fun hm=>?_,hn.ok.nd⟩;grind [X5]
theorem MW {H:Ax T} {st0:Af T}: ∀ {l:List (Ah×ESp)} {vs us:List (DV T)} {st a_:Af T} {H1:Ax T},Nx H st0 H1 st->(∀ v∈vs,rP v)->Jm l vs st=some (a_,us)->
 (∃ H',Nx H st0 H' a_)/\a_.tm=st.tm/\a_.gh=st.gh/\a_.pre=st.pre/\a_.m=st.m
 | [],vs,us,st,a_,H1,hn,hv,h=>by simp only [Jm,injEq,Prod.mk.injEq]at h;grind
 | (id,p)::r,vs,us,st,a_,H1,hn,hv,h=>by
   simp only [Jm]at h;split at h
   ·rename_i x us1 h1 h2;obtain⟨a,b⟩:=yw hv h1;obtain⟨H2,h3⟩:=yx hn a h2;obtain⟨c1,c2,c3,c4,c5⟩:=MW h3 b h;exact⟨c1,c2,c3,c4,c5⟩
   ·cases h
def yz (l:List (DE T)) (e':DE T):Prop:=e'.toE∈l.map DE.toE\/ ∃ cs cs',(⟨e'.id,none,cs,false⟩:Au)∈l.map DE.toE/\e'.toE=⟨e'.id,none,cs',false⟩/\EF cs cs'/\eg cs=false
theorem rQ {l:List (DE T)} {id:Ah} {p:ESp} {vs vs' us us':List (DV T)} {x:DX T} (h:Ab5 l id p=some vs) (hw:aen yt vs vs') (hi:nC p (vs'++us)=some (x,us')) (t:Nat):us'=us/\yz l ⟨id,t,x⟩:=by
 unfold Ab5 at h;split at h
 ·rename_i e sg he;obtain⟨m1,m2,_⟩:=C0 he;split at h
  ·rename_i cs hx;split at h
   ·rename_i vs1 hm h1;injection h with h;subst h;simp only [nC]at hi;split at hi
    ·rename_i cs' us1 h2;simp only [injEq,Prod.mk.injEq]at hi;obtain⟨rfl,rfl⟩:=hi;obtain⟨a,b,d⟩:=HE h1 hw h2;simp only [Av,append_nil]at b;refine⟨a, .inr ⟨Av cs,Av cs',(by grind [DE.toE_box]),rfl,b,(by grind [cD,uj])⟩⟩
    ·cases hi
   ·cases h
  ·cases h
 ·rename_i e E0 he;obtain⟨m1,m2,_⟩:=C0 he;split at h
  ·rename_i E l' hx;split at h
   ·rename_i hE;have hE:=eq_of_beq_eq_true hE;subst hE;injection h with h;subst h;cases hw with
    | cons k1 k2=>
      cases k2
      rcases k1 with ⟨c,c',e1,e2,e3,e4⟩ | ⟨_,_,e1,_⟩
      ·injection e1 with e1;subst e1 e2;simp only [cons_append,nil_append]at hi;unfold nC at hi;split at hi
       ·grind
       ·rename_i E0 E' l'' vs0 q1 q2;injection q1 with q1;subst q1;injection q2 with q2 q3;injection q2 with q2;subst q2 q3;split at hi
        ·rename_i hE;have hE:=eq_of_beq_eq_true hE;subst hE;simp only [injEq,Prod.mk.injEq]at hi;obtain⟨rfl,rfl⟩:=hi;refine⟨rfl, .inl (mem_map.2 ⟨e,m1,?_⟩)⟩;grind [DC.toC,Bk,Hj,DE.toE]
        ·cases hi
       all_goals grind
      ·cases e1
   ·cases h
  ·cases h
 ·rename_i e E0 he;obtain⟨m1,m2,_⟩:=C0 he;split at h
  ·rename_i E n l' hx;split at h
   ·rename_i hE;have hE:=eq_of_beq_eq_true hE;subst hE;injection h with h;subst h;cases hw with
    | cons k1 k2=>
      cases k2 with
      | cons k3 k4=>
        cases k4
        rcases k1 with ⟨c,c',e1,e2,e3,e4⟩ | ⟨_,_,e1,_⟩
        ·rcases k3 with ⟨d,d',f1,f2,f3,f4⟩ | ⟨_,_,f1,_⟩
         ·injection e1 with e1;injection f1 with f1;subst e1 e2 f1 f2;simp only [cons_append,nil_append]at hi;unfold nC at hi;split at hi
          ·grind
          ·grind
          ·rename_i E1 n' E2 l'' vs0 q1 q2;injection q1 with q1;subst q1;injection q2 with q2 q3;injection q2 with q2;injection q3 with q3 q4;injection q3 with q3;subst q2 q3 q4;split at hi
           ·rename_i hE;have hE:=eq_of_beq_eq_true hE;subst hE;simp only [injEq,Prod.mk.injEq]at hi;obtain⟨rfl,rfl⟩:=hi;refine⟨rfl, .inl (mem_map.2 ⟨e,m1,?_⟩)⟩;grind [DC.toC,Bk,Hj,DE.toE,Bp,cZ]
           ·cases hi
          ·cases hi
         ·cases f1
        ·cases e1
   ·cases h
  ·cases h
 ·cases h
end Go.PL
namespace Go.PL
open Go Go.RowKit
variable {T:Bm}
theorem jQ {L:List (DE T)}: ∀ {l:List (Ah×ESp)} {vs vs' us us':List (DV T)} {st a_:Af T},RI L l=some vs->aen yt vs vs'->Jm l (vs'++us) st=some (a_,us')->(∀ e∈st.so,yz L e)->
 us'=us/\ ∀ e∈a_.so,yz L e
 | [],vs,vs',us,us',st,a_,h,hw,hi,hs=>by
   simp only [RI,injEq]at h;subst h;cases hw
   simp only [Jm,nil_append,injEq,Prod.mk.injEq]at hi;grind
 | (id,p)::r,vs,vs',us,us',st,a_,h,hw,hi,hs=>by
   simp only [RI]at h;split at h
   ·rename_i a b h1 h2;injection h with h;subst h;obtain⟨x,y,rfl,k1,k2⟩:=aen.adB hw;simp only [Jm]at hi;split at hi
    ·rename_i v us1 h3 h4;rw [append_assoc]at h3;obtain⟨e,hv⟩:=rQ h1 k1 h3 st.nx;subst e;refine jQ h2 k2 hi fun e he=>?_;rcases mem_cons.1 he with rfl | he
     all_goals grind
    ·cases hi
   ·cases h
def HF (ks:List Nat):Tm T->Tm T
 | []=>[]
 | (s,t,v)::r=>match Hw ks s with
   | true=>(s,t,v)::HF ks r
   | false=>HF ks r
def Qw:List Ah->Ah->Bool
 | [],_=>false
 | a::l,b=>match Bc a b with
   | true=>true
   | false=>Qw l b
def Qx (ke:List Ah):List (DE T)->List (DE T)
 | []=>[]
 | e::r=>match Qw ke e.id with
   | true=>e::Qx ke r
   | false=>Qx ke r
theorem MX {ks:List Nat}: ∀ {tm:Tm T} {x:Nat×Nat×DV T},x∈HF ks tm->x∈tm
 | [],_,h=>h
 | (s,t,v)::r,x,h=>by
   unfold HF at h;split at h
   ·rcases mem_cons.1 h with rfl | h
    ·simp
    ·simp [MX h]
   ·simp [MX h]
theorem Pd {ks:List Nat} (i:Nat): ∀ tm:Tm T,lk (HF ks tm) i=(match Hw ks i with | true=>lk tm i | false=> .u)
 | []=>by cases Hw ks i<;>rfl
 | (s,t,v)::r=>by
   have ih:=Pd (ks:=ks) i r;unfold HF;cases hs:Hw ks s with
   | true=>
     simp only [lk];cases hb:Nat.beq s i with
     | true=>
       have:=eq_of_beq_eq_true hb;subst this;rw [hs]
     | false=>exact ih
   | false=>
     simp only;rw [ih];cases hi:Hw ks i with
     | true=>
       simp only [lk];cases hb:Nat.beq s i with
       | true=>
         have:=eq_of_beq_eq_true hb;subst this;rw [hs]at hi;cases hi
       | false=>rfl
     | false=>rfl
theorem Qy {b:Ah}: ∀ {l:List Ah},Qw l b=true↔b∈l
 | []=>by simp [Qw]
 | a::l=>by
   unfold Qw;cases h:Bc a b with
   | true=>have:=AP.1 h;subst this;simp
   | false=>
     have:b ≠ a:=fun e=>by rw [AP.2 e.symm]at h;cases h
     simp [Qy (l:=l),this]
theorem HG (ke:List Ah): ∀ l:List (DE T),(Qx ke l).Sublist l/\ ∀ e∈Qx ke l,e.id∈ke
 | []=>⟨List.Sublist.slnil,fun _ h=>by cases h⟩
 | e::r=>by
   obtain⟨a,b⟩:=HG ke r;unfold Qx;split
   ·rename_i h;refine⟨a.cons_cons _,fun x hx=>?_⟩;rcases mem_cons.1 hx with rfl | hx
    all_goals grind [Qy]
   grind
def Iy.base (sh:Iy) (st:Af T):Af T:={st with tm:=HF sh.ks st.tm,so:=Qx sh.ke st.so}
theorem Iy.afD {H:Ax T} (sh:Iy) {st:Af T} (h:AI H st):Nx H st H (sh.base st):=
 ⟨Da.refl _ _,le_refl _,fun s t v hm=>h.tm s t v (MX hm),h.gh,fun e he=>h.so e ((HG _ _).1.subset he),List.Sublist.nodup ((HG _ _).1.map _) h.nd⟩
def Iy.inst (sh:Iy) (st:Af T) (vs:List (DV T)):Option (Af T):=match Iz sh.vs vs (sh.base st)with
 | some (s,us)=>match Jm sh.es us s with
   | some (s',_)=>some s'
   | none=>none
 | none=>none
theorem Iy.aeq {H:Ax T} {sh:Iy} {st s':Af T} (h:AI H st) {vs:List (DV T)} (hv: ∀ v∈vs,rP v) (hi:sh.inst st vs=some s'): ∃ H',Nx H st H' s':=by
 unfold Iy.inst at hi;split at hi
 ·rename_i s us h1;split at hi
  ·rename_i s2 us2 h2;injection hi with hi;subst hi;obtain⟨⟨H1,a⟩,b,_⟩:=K9 (sh.afD h) hv h1;exact(MW a b h2).1
  ·cases hi
 ·cases hi
def pM (ks:List Nat) (tm tm0:Tm T):Bool:=match ks with
 | []=>true
 | s::r=>match Nat.beq (Xg tm s) (Xg tm0 s)with
   | true=>pM r tm tm0
   | false=>false
def pN (ke:List Ah) (l l0:List (DE T)):Bool:=match ke with
 | []=>true
 | i::r=>match Hk l i,Hk l0 i with
   | some a,some b=>match Nat.beq a.tag b.tag with
     | true=>pN r l l0
     | false=>false
   | _,_=>false
def rR:Tm T->Tm T->Bool
 | [],[]=>true
 | (s,t,_)::r,(s',t',_)::r'=>match Nat.beq s s'&&Nat.beq t t' with
   | true=>rR r r'
   | false=>false
 | _,_=>false
def rS:List (Nat×Tm T)->List (Nat×Tm T)->Bool
 | [],[]=>true
 | (m,tm)::r,(m',tm')::r'=>match Nat.beq m m'&&rR tm tm' with
   | true=>rS r r'
   | false=>false
 | _,_=>false
theorem X6: ∀ {ks:List Nat} {tm tm0:Tm T},pM ks tm tm0=true-> ∀ s,Hw ks s=true->Xg tm s=Xg tm0 s
 | [],_,_,_,s,hs=>by simp [Hw]at hs
 | a::r,tm,tm0,h,s,hs=>by
   unfold pM at h;split at h
   ·rename_i hb;rw [Dd]at hs;rcases mem_cons.1 hs with rfl | hs
    ·exact eq_of_beq_eq_true hb
    ·exact X6 h s (Dd.2 hs)
   ·cases h
theorem X7: ∀ {ke:List Ah} {l l0:List (DE T)},pN ke l l0=true-> ∀ i∈ke, ∃ a b,Hk l i=some a/\Hk l0 i=some b/\a.tag=b.tag
 | [],_,_,_,i,hi=>by cases hi
 | k::r,l,l0,h,i,hi=>by
   unfold pN at h;split at h
   ·rename_i a b h1 h2;split at h
    ·rename_i hb;rcases mem_cons.1 hi with rfl | hi
     ·simp_all
     ·exact X7 h i hi
    ·cases h
   ·cases h
theorem da {H H':Ax T} {n n':Nat} (he:Da n H H'): ∀ {tm tm':Tm T},rR tm' tm=true->Qk H n tm->Qk H' n' tm'->tm'=tm
 | [],[],_,_,_=>rfl
 | [],_::_,h,_,_=>by simp [rR]at h
 | _::_,[],h,_,_=>by simp [rR]at h
 | (s,t,v)::r,(s',t',v')::r',h,a,b=>by
   unfold rR at h;split at h
   ·rename_i hb;simp only [and_eq_true,beq_eq]at hb;obtain⟨rfl,rfl⟩:=hb;obtain⟨a1,a2,_⟩:=a s' t' v (by simp);obtain⟨_,b2,_⟩:=b s' t' v' (by simp);have:v'=v:=by rw [<-a2, <-b2,(he t' a1).1]
    subst this;rw [da he h (fun s t v hm=>a s t v (by simp [hm])) (fun s t v hm=>b s t v (by simp [hm]))]
   ·cases h
theorem db {H H':Ax T} {n n':Nat} (he:Da n H H'): ∀ {l l':List (Nat×Tm T)},rS l' l=true->(∀ f∈l,Qk H n f.2)->(∀ f∈l',Qk H' n' f.2)->l'=l
 | [],[],_,_,_=>rfl
 | [],_::_,h,_,_=>by simp [rS]at h
 | _::_,[],h,_,_=>by simp [rS]at h
 | (m,tm)::r,(m',tm')::r',h,a,b=>by
   unfold rS at h;split at h
   ·rename_i hb;simp only [and_eq_true,beq_eq]at hb;obtain⟨rfl,hb⟩:=hb;rw [da he hb (by simp_all) (b (m',tm') (by simp)),db he h (by grind) (fun f hm=>b f (by simp [hm]))]
   ·cases h
def F6:List Ah->Af T->Af T
 | [],st=>st
 | i::r,st=>match st.frz i with
   | some s=>F6 r s
   | none=>F6 r st
theorem GC {H0:Ax T} {st0:Af T}: ∀ {l:List Ah} {st:Af T} {H:Ax T},Nx H0 st0 H st->(∃ H',Nx H0 st0 H' (F6 l st))/\Wk st.toSt (F6 l st).toSt
 | [],st,H,h=>⟨⟨H,h⟩,Wk.less (B8.refl _)⟩
 | i::r,st,H,h=>by
   unfold F6;split
   ·rename_i s hs;obtain⟨⟨H1,a⟩,b,_⟩:=Af.afB h.ok hs;obtain⟨c,d⟩:=GC (l:=r) (h.trans a);grind [Wk.trans,Wk.frz]
   ·exact GC (l:=r) h
def AaZ:List (Ah×ESp)->List Ah
 | []=>[]
 | (i,_)::r=>i::AaZ r
def uS (tm:Tm T):List (Nat×VSp)->List Ah
 | []=>[]
 | (s,_)::r=>pK (lk tm s)++uS tm r
def fq (l:List (DE T)):List (Ah×ESp)->List Ah
 | []=>[]
 | (i,_)::r=>match Hk l i with
   | some e=>match e.x with
     | .box cs=>cV cs++fq l r
     | _=>fq l r
   | none=>fq l r
def uT (l:List Ah):List Ah->List Ah
 | []=>[]
 | i::r=>match Qw l i with
   | true=>uT l r
   | false=>i::uT l r
def Iy.frz (sh:Iy) (st:Af T):List Ah:=uT (sh.ke++AaZ sh.es) (uS st.tm sh.vs++fq st.so sh.es)
def Iy.aq6 (sh:Iy) (st0 s:Af T):Option (RT T sh.ts):=
 match pM sh.ks s.tm st0.tm&&(pN sh.ke s.so st0.so&&(rS s.gh st0.gh&&(Nat.beq s.m st0.m&&Bc s.pre st0.pre)))with
 | true=>match Ou s.tm sh.vs,RI s.so sh.es with
   | some a,some b=>fp sh.ts (a++b)
   | _,_=>none
 | false=>none
def Iy.gen (sh:Iy) (st0 a_:Af T):Option (RT T sh.ts):=sh.aq6 st0 (F6 (sh.frz a_) a_)
theorem ft {l:List (DE T)} (hn:(l.map DE.id).Nodup): ∀ {e:DE T},e∈l->Hk l e.id=some e:=by
 induction l with
 | nil=>grind
 | cons a r ih=>
   intro e h;rw [map_cons]at hn;obtain⟨n1,n2⟩:=nodup_cons.1 hn;unfold Hk;split
   ·rename_i hb;have hb:=AP.1 hb;grind
   ·rename_i hb;rcases mem_cons.1 h with rfl | h
    ·rw [AP.2 rfl]at hb;cases hb
    grind
theorem Iy.aoR {H H':Ax T} {sh:Iy} {st0 s s1:Af T} (h0:AI H st0) (hN:Nx H st0 H' s) {x:RT T sh.ts} (hg:sh.aq6 st0 s=some x) (hi:sh.inst st0 (CL sh.ts x)=some s1):Wkn s.toSt s1.toSt:=by
 unfold Iy.aq6 at hg;split at hg
 ·rename_i hb;simp only [and_eq_true,beq_eq]at hb;obtain⟨k1,k2,k3,k4,k5⟩:=hb;split at hg
  ·rename_i a b ga gb;have hw:=Vf hg;obtain⟨va,vb,hv,wa,wb⟩:=aen.adB hw;unfold Iy.inst at hi;split at hi
   ·rename_i s2 us h1;split at hi
    ·rename_i s3 us2 h2;injection hi with hi;subst hi;rw [hv]at h1;have hpv:=EG sh.ts x;rw [hv]at hpv;obtain⟨⟨H1,n1⟩,n2,n3,n4,n5,n6⟩:=K9 (sh.afD h0) hpv h1;have apN: ∀ i,X2 (lk s.tm i).toV (lk (sh.base st0).tm i).toV :=by
      intro i;show X2 (lk s.tm i).toV (lk (HF sh.ks st0.tm) i).toV;rw [Pd];cases hm:Hw sh.ks i with
      | false=>simp only [DV.toV];intro w G u _;simp only [Ab]
      | true=>
        simp only;have ht:=X6 k1 i hm;have:lk s.tm i=lk st0.tm i:=by
         rcases Ru st0.tm i with ⟨q1,q2⟩ | ⟨t,q1,q2⟩
         ·grind [Ru]
         ·obtain⟨p1,p2⟩:=Xh h0.tm q2;obtain⟨p3,p4⟩:=Xh hN.ok.tm (ht.trans q2);rw [<-p2, <-p4,(hN.ext t p1).1]
        grind [X2.refl]
     obtain⟨e1,hsl⟩:=cY (us:=vb) ga wa h1 apN;subst e1;have hpb: ∀ v∈us,rP v:=n2;obtain⟨⟨H2,m1⟩,m2,m3,m4,m5⟩:=MW n1 hpb h2;have axn: ∀ e∈s2.so,yz s.so e:=by
      intro e he;rw [n3]at he;have he:e∈Qx sh.ke st0.so:=he;have hid:=(HG sh.ke st0.so).2 e he;have ajw:=(HG sh.ke st0.so).1.subset he;obtain⟨a',b',q1,q2,q3⟩:=X7 k2 e.id hid;rw [ft h0.nd ajw]at q2;injection q2 with q2;subst q2;obtain⟨t1,t2,_⟩:=h0.so e ajw;obtain⟨u1,u2,_⟩:=C0 q1;obtain⟨v1,v2,_⟩:=hN.ok.so a' u1;have:a'=e:=by rw [<-t2, <-v2,q3,(hN.ext e.tag t1).2]
      subst this;exact .inl (mem_map.2 ⟨a',u1,rfl⟩)
     have h2':Jm sh.es (us++[]) s2=some (s3,us2):=by grind
     obtain⟨_,hen⟩:=jQ gb wb h2' axn;have hgh:=db hN.ext k3 h0.gh hN.ok.gh;exact {
      len:=by simp only [Af.toSt,AE,List.length_map,List.length_range];rw [m5,n6,k4];rfl
      tm:=fun i=>by show X2 ((AE s.m s.tm).getD i .undef) ((AE s3.m s3.tm).getD i .undef);rw [L8,L8,m5,n6,m2];have:(sh.base st0).m =s.m:=k4.symm;grind [X2.refl]
      so:=fun e' he'=>by
       obtain⟨d,hd,rfl⟩:=mem_map.1 he';rcases hen d hd with q | ⟨cs,cs',q1,q2,q3,q4⟩
       ·exact .inl q
       ·exact .inr ⟨cs,cs',by rw [DE.toE_id];exact q1,by grind,q3,q4⟩
      nd:=by
       have:=m1.ok.nd;show ((s3.so.map DE.toE).map Au.id).Nodup;rw [map_map];have e:(Au.id ∘ DE.toE:DE T->Ah)=DE.id:=by grind [DE.toE_id]
       grind
      gh:=by simp only [Af.toSt];rw [m3,n4,hgh];rfl
      pre:=by simp only [Af.toSt];rw [m4,n5,AP.1 k5];rfl}
    ·cases hi
   ·cases hi
  ·cases hg
 ·cases hg
theorem Iy.ad7 {H H':Ax T} {sh:Iy} {st0 a_ s1:Af T} (h0:AI H st0) (hN:Nx H st0 H' a_) {x:RT T sh.ts} (hg:sh.gen st0 a_=some x) (hi:sh.inst st0 (CL sh.ts x)=some s1):Wk a_.toSt s1.toSt:=by obtain⟨⟨H1,a⟩,b⟩:=GC (l:=sh.frz a_) hN;exact b.trans (Wk.wkn (Iy.aoR h0 a hg hi))
end Go.PL
namespace Go.PL
open Go Go.RowKit
variable {T:Bm}
def GQ:Nat->List (DV T)->Af T->Af T
 | _,[],st=>st
 | i,v::vs,st=>GQ (i+1) vs (st.put (some i) v)
theorem Qz {H:Ax T} {st0:Af T}: ∀ {vs:List (DV T)} {i:Nat} {st:Af T} {H1:Ax T},Nx H st0 H1 st->CZ H st0.nx vs-> ∃ H',Nx H st0 H' (GQ i vs st)
 | [],_,st,H1,h,_=>⟨H1,h⟩
 | v::vs,i,st,H1,h,hv=>by simp only [CZ]at hv;obtain⟨H2,h2⟩:=Af.H_ h (some i) (DV.acI h.ext h.le hv.1);show ∃ H',Nx H st0 H' (GQ (i+1) vs (st.put (some i) v));exact Qz h2 hv.2
theorem MY: ∀ (vs:List (DV T)) (i:Nat) (st:Af T),(GQ i vs st).so =st.so/\(GQ i vs st).gh =st.gh/\(GQ i vs st).pre =st.pre/\(GQ i vs st).m =st.m
 | [],_,_=>⟨rfl,rfl,rfl,rfl⟩
 | v::vs,i,st=>MY vs (i+1) (st.put (some i) v)
theorem QA: ∀ (vs:List (DV T)) (i:Nat) (st:Af T) (j:Nat),lk (GQ i vs st).tm j=if i<=j/\j<i+vs.length then vs.getD (j - i) .u else lk st.tm j
 | [],i,st,j=>by rw [if_neg (by simp)];rfl
 | v::vs,i,st,j=>by rw [GQ,QA vs (i+1) _ j,uR];grind
def Af.enter (st:Af T) (k:Nat) (args:List (DV T)) (n:Nat):Af T:=GQ 0 args ⟨n,[],st.so,(st.m,st.tm)::st.gh,k::st.pre,st.nx⟩
theorem uU {H:Ax T} {st:Af T} (h:AI H st) (k:Nat) {args:List (DV T)} (n:Nat) (ha:CZ H st.nx args): ∃ H',Nx H st H' (st.enter k args n):=by
 refine Qz (H1:=H) (st:=⟨n,[],st.so,(st.m,st.tm)::st.gh,k::st.pre,st.nx⟩) ⟨Da.refl _ _,le_refl _,⟨fun _ _ _ hm=>by simp at hm,fun f hf=>?_,h.so,h.nd⟩⟩ ha;rcases mem_cons.1 hf with rfl | hf
 ·exact h.tm
 ·exact h.gh f hf
theorem X8 {m:Nat} {tm:Tm T} {vs:List (DV T)} (hl:vs.length<=m) (h: ∀ j,lk tm j=if j<vs.length then vs.getD j .u else .u):AE m tm=Be vs++List.replicate (m - (Be vs).length) .undef :=by
 rw [Iu];apply List.ext_getElem?;intro i;unfold AE;rw [List.getElem?_map];by_cases hi:i<vs.length
 ·rw [List.getElem?_range (by omega),List.getElem?_append_left (by rw [Iu];exact hi)];simp_all [Ob]
 ·rw [List.getElem?_append_right (by rw [Iu];omega),Iu,List.getElem?_replicate];by_cases hm:i<m
  all_goals simp_all [DV.toV]
theorem nD {st:Af T} {k:Nat} {args:List (DV T)} {n:Nat} (hl:args.length<=n):(st.enter k args n).toSt =st.toSt.enter k (Be args) n:=by obtain⟨a,b,c,d⟩:=MY args 0 (⟨n,[],st.so,(st.m,st.tm)::st.gh,k::st.pre,st.nx⟩:Af T);unfold Af.enter;simp only [Af.toSt,a,b,c,d,St.enter,flatMap_cons];rw [X8 hl];intro j;rw [QA];simp only [Nat.zero_le,true_and,zero_add,Nat.sub_zero];rfl
def Af.back (st st0:Af T) (d:Option Nat) (v:DV T):Option (Af T):=match st.gh with
 | (m',tm')::g=>match Nat.beq m' st0.m with
   | true=>some (({st with m:=m',tm:=tm',gh:=g,pre:=st0.pre}:Af T).put d v)
   | false=>none
 | []=>none
theorem Bw (m:Nat) (tm:Tm T):(AE m tm).length =m:=by simp [AE]
theorem rT {H H1:Ax T} {st st0 b:Af T} {d:Option Nat} {v:DV T} (hN:Nx H st0 H1 st) (hv:v.ok H1 st.nx) (h:st.back st0 d v=some b):(∃ H',Nx H st0 H' b)/\b.toSt=st.toSt.back st0.m st0.pre d v.toV/\b.pre=st0.pre:=by
 unfold Af.back at h;split at h
 ·rename_i m' tm' g hg;split at h
  ·rename_i hm;have hm:=eq_of_beq_eq_true hm;injection h with h;subst h;have hgh:=hN.ok.gh;rw [hg]at hgh;have n1:Nx H st0 H1 ({st with m:=m',tm:=tm',gh:=g,pre:=st0.pre}:Af T):=⟨hN.ext,hN.le,(by simp_all),(by grind),hN.ok.so,hN.ok.nd⟩;refine⟨Af.H_ n1 d hv,?_,by rw [AU]⟩;grind [Af.k_,Af.toSt,St.back,Bw]
  ·cases h
 ·cases h
def Vg (P:Program) (st:Af T):ResultVar->M (DV T)
 | .tmp t=> .ret (st.get t)
 | .cell t Ty=>ju P Ty [] st (st.get t)
def nE (P:Program) (st:Af T):List ResultVar->M (List (DV T))
 | []=> .ret []
 | x::xs=> .Q_ (Vg P st x) fun v=> .Q_ (nE P st xs) fun vs=> .ret (v::vs)
def uV (P:Program) (st:Af T):List ResultVar->M (DV T)
 | [x]=>Vg P st x
 | xs=> .Q_ (nE P st xs) fun vs=> .ret (.tup vs)
section
variable {H:Ax T} {P:Program} {st:Af T}
theorem Kr (hw:AI H st) (x:ResultVar):Yl (Vg P st x) (fun v=>v.ok H st.nx/\(Px P st.toSt x).1/\(Px P st.toSt x).2=v.toV):=by
 cases x with
 | tmp t=>exact Yl.ret ⟨Af.af2 hw t,trivial,by simp only [Px];exact st.aaZ t⟩
 | cell t Ty=>
   refine(Xs (key:=[]) hw (fun _=>Af.af2 hw t)).mono fun v hv=>?_;obtain⟨a,b,c⟩:=hv rfl;simp only [Px,st.aaZ];grind
theorem dc (hw:AI H st): ∀ xs:List ResultVar,Yl (nE P st xs) (fun vs=>CZ H st.nx vs/\(CN P st.toSt xs).1/\(CN P st.toSt xs).2=Be vs)
 | []=>Yl.ret (by simp_all [CZ,CN,Be])
 | x::xs=>Yl.Q_ (Kr hw x) fun v hv=>Yl.Q_ (dc hw xs) (by simp_all [Yl.ret,CZ,CN,Be])
theorem yA (hw:AI H st) (xs:List ResultVar):Yl (uV P st xs) (fun v=>v.ok H st.nx/\(CI P st.toSt xs).1/\(CI P st.toSt xs).2=v.toV):=by
 unfold uV;split
 ·rename_i x;exact Kr hw x
 ·rename_i Tg;refine Yl.Q_ (dc hw _) fun vs hvs=>Yl.ret ?_;obtain⟨a,b,c⟩:=hvs;have:CI P st.toSt xs=((CN P st.toSt xs).1, .tup (CN P st.toSt xs).2):=by unfold CI;grind
  simp_all [DV.ok,DV.toV]
end
end Go.PL
namespace Go.PL
open Go Go.RowKit
variable {T:Bm}
mutual
def DC.i_ (p:Ah->Bool):DC T->Bool
 | .c x=>x.i_ p
 | .rp i _ _ _=>p i
 | .ap i _ _ _ _ _=>p i
 | .bs i _ _ _=>p i
 | .clo _ _ cs=>QB p cs
 | .k _ _=>false
 | .ip .. =>false
def QB (p:Ah->Bool):List (DC T)->Bool
 | []=>false
 | c::cs=>match c.i_ p with
   | true=>true
   | false=>QB p cs
end
mutual
theorem DC.aiI (p:Ah->Bool): ∀ c:DC T,c.i_ p=c.toC.i_ p
 | .c x=>by simp only [DC.i_,DC.toC]
 | .rp .. =>by simp only [DC.i_,DC.toC,C.i_]
 | .ap .. =>by simp only [DC.i_,DC.toC,C.i_]
 | .bs .. =>by simp only [DC.i_,DC.toC,C.i_]
 | .clo true _ cs=>by simp only [DC.i_,DC.toC,C.i_,GD p cs]
 | .clo false _ cs=>by simp only [DC.i_,DC.toC,C.i_,GD p cs]
 | .k kd x=>by cases kd<;>simp only [DC.i_,DC.toC,Bk,C.i_]
 | .ip .. =>by simp only [DC.i_,DC.toC,C.i_]
theorem GD (p:Ah->Bool): ∀ cs:List (DC T),QB p cs=CO p (Av cs)
 | []=>by simp only [QB,Av,CO]
 | c::cs=>by simp only [QB,Av,CO,DC.aiI p c,GD p cs];cases c.toC.i_ p<;>rfl
end
mutual
def DV.i_ (p:Ah->Bool):DV T->Bool
 | .c x=>x.i_ p
 | .agg cs=>QB p cs
 | .tup vs=>fu p vs
 | .g _ v=>v.i_ p
 | .u =>false
def fu (p:Ah->Bool):List (DV T)->Bool
 | []=>false
 | v::vs=>match v.i_ p with
   | true=>true
   | false=>fu p vs
end
mutual
theorem DV.afp (p:Ah->Bool): ∀ v:DV T,v.i_ p=false->v.toV.i_ p=false
 | .c x,h=>by grind [DV.i_,DV.toV,V.i_,DC.aiI]
 | .agg cs,h=>by grind [DV.i_,DV.toV,V.i_,GD]
 | .tup vs,h=>by simp only [DV.i_]at h;simp only [DV.toV,V.i_];exact de p vs h
 | .g k v,h=>by simp only [DV.i_]at h;simp only [DV.toV,V.i_,DV.afp p v h]
 | .u,_=>by simp only [DV.toV,V.i_]
theorem de (p:Ah->Bool): ∀ vs:List (DV T),fu p vs=false->N9 p (Be vs)=false
 | [],_=>by simp only [Be,N9]
 | v::vs,h=>by
   simp only [fu]at h;split at h
   ·cases h
   ·rename_i hv;simp only [Be,N9,DV.afp p v hv,de p vs h,Bool.or_self]
end
def MZ (p:Ah->Bool) (c:DC T):DC T:=match c.i_ p with
 | true=> .c .any
 | false=>c
def DX.i_ (p:Ah->Bool):DX T->Bool
 | .box cs=>QB p cs
 | .row _ _=>false
 | .deep .. =>false
def Pe (p:Ah->Bool):DX T->DX T
 | .box cs=> .box (cs.map (MZ p))
 | x=>x
theorem X9 {p:Ah->Bool} {c:DC T} (h:c.ok):(MZ p c).ok :=by grind [MZ,DC.ok]
theorem Ov (p:Ah->Bool) (c:DC T):(MZ p c).toC =Cy p c.toC:=by grind [MZ,Cy,DC.aiI,DC.toC]
theorem Pf {p:Ah->Bool} {v:V} (h:v.i_ p=false):Bz p v=v:=by simp_all [Bz]
theorem TK {p:Ah->Bool}: ∀ {l:List C},CO p l=false->l.map (Cy p)=l
 | [],_=>rfl
 | c::l,h=>by simp only [CO,Bool.or_eq_false_iff]at h;rw [map_cons,TK h.2,Cy,if_neg (by simp [h.1])]
theorem jR {p:Ah->Bool} {e:DE T} (t:Nat):(⟨e.id,t,Pe p e.x⟩:DE T).toE =Au.e_ p e.toE:=by
 unfold DE.toE;cases hxx:e.x with
 | box cs=>
   simp only [Pe,Au.e_,CP,map_map,Au.mk.injEq,and_true,true_and];grind [List.map_congr_left,Ov]
 | row E l=>rfl
 | deep E n l h=>rfl
theorem rU {p:Ah->Bool} {e:DE T} (h:e.x.i_ p=false):Au.e_ p e.toE=e.toE:=by grind [DE.toE,DX.i_,GD,Au.e_,TK]
theorem df {p:Ah->Bool} {m n:Nat} {tm:Tm T}:JG ((AE m tm).map (Bz p)) (AE m (PA (DV.i_ p) (fun _=> .u) n tm)):=by unfold AE;rw [map_map];refine JG.map fun i _=>?_;simp only [Function.comp,MS (p:=DV.i_ p) (f:=fun _=>DV.u) (by simp [DV.i_])];grind [DV.toV,Pf,DV.afp]
theorem uW {p:Ah->Bool}: ∀ (l:List (Nat×Tm T)) (n:Nat),JG ((l.flatMap fun f=>AE f.1 f.2).map (Bz p)) ((Qo (DV.i_ p) (fun _=> .u) n l).flatMap fun f=>AE f.1 f.2)
 | [],_=>trivial
 | (m,tm)::r,n=>by simp only [Qo,flatMap_cons,List.map_append];exact df.append (uW r _)
def Af.IN (st:Af T) (p:Ah->Bool):Af T:=let s:=st.adE (DV.i_ p) (fun _=> .u) (DX.i_ p) (Pe p);{s with so:=s.so.filter fun e=> !(p e.id)}
theorem jS (p:Ah->Bool) (l:List (DE T)):(l.filter fun e=> !(p e.id)).map DE.toE=(l.map DE.toE).filter fun e=> !(p e.id):=by
 induction l with
 | nil=>rfl
 | cons e l ih=>
   simp only [List.filter_cons,map_cons,DE.toE_id];grind
theorem fv (p:Ah->Bool) (l:List Au):(l.map (Au.e_ p)).filter (fun e=> !(p e.id))=(l.filter (fun e=> !(p e.id))).map (Au.e_ p):=by induction l<;>grind [Au.u_]
theorem Af.ab0 {H:Ax T} {st:Af T} (h:AI H st) (p:Ah->Bool):(∃ H',Nx H st H' (st.IN p))/\JG (st.toSt.tm.map (Bz p)) (st.IN p).toSt.tm /\JG (st.toSt.gh.map (Bz p)) (st.IN p).toSt.gh /\
 (st.IN p).toSt.so =(st.toSt.so.filter fun e=> !(p e.id)).map (Au.e_ p)/\(st.IN p).pre =st.pre/\ ∀ e∈(st.IN p).so,p e.id=false:=by
 obtain⟨H',hN⟩:=Af.adW (p:=DV.i_ p) (f:=fun _=> .u) (q:=DX.i_ p) (g:=Pe p) h (fun _=>by simp only [DV.ok]) (fun {x} hx=>by
  cases x with
  | box cs=>
    simp only [Pe,DX.ok]at hx ⊢;refine De.2 fun c hc=>?_;obtain⟨d,h1,rfl⟩:=mem_map.1 hc;grind [X9,De]
  | row E l=>exact hx
  | deep E n l h=>exact hx)
 refine⟨⟨H',hN.ext,hN.le,Ez hN.ok _⟩,df,uW _ _,?_,rfl,fun e he=>?_⟩
 ·show ((Qp (DX.i_ p) (Pe p) (st.nx+st.tm.length+Nv st.gh) st.so).filter fun e=> !(p e.id)).map DE.toE=_;rw [jS,Og (F:=Au.e_ p) _ (fun e _=>⟨fun _ t=>jR t,fun hm=>rU hm⟩)];exact fv p _
 ·have:=(mem_filter.1 he).2;grind
def Bn:List (Ah×DX T)->Af T->Af T
 | [],st=>st
 | (i,x)::r,st=>let s:=Bn r st;{s with so:=⟨i,s.nx,x⟩::s.so,nx:=s.nx+1}
def ah (p:Ah×DX T):Au:=(⟨p.1,0,p.2⟩:DE T).toE
theorem pO (i:Ah) (t:Nat) (x:DX T):(⟨i,t,x⟩:DE T).toE =ah (i,x):=by grind [ah,DE.toE]
theorem EH: ∀ (l:List (Ah×DX T)) (st:Af T),(Bn l st).tm =st.tm/\(Bn l st).gh =st.gh/\(Bn l st).pre =st.pre/\(Bn l st).m =st.m/\(Bn l st).toSt.so =l.map ah++st.toSt.so/\(Bn l st).so.map DE.id=l.map (·.1)++st.so.map DE.id
 | [],st=>⟨rfl,rfl,rfl,rfl,rfl,rfl⟩
 | (i,x)::r,st=>by obtain⟨a,b,c,d,e,f⟩:=EH r st;simp_all [Bn,Af.toSt,pO]
theorem JJ {H:Ax T} {st0 st:Af T}: ∀ {l:List (Ah×DX T)} {H1:Ax T},Nx H st0 H1 st->(∀ p∈l,p.2.ok)->(l.map (·.1)).Nodup ->(∀ p∈l, ∀ e∈st.so,e.id ≠ p.1)-> ∃ H',Nx H st0 H' (Bn l st)
 | [],H1,hn,_,_,_=>⟨H1,hn⟩
 | (i,x)::r,H1,hn,hx,hd,hf=>by
   simp only [map_cons,nodup_cons]at hd;obtain⟨H2,h2⟩:=JJ hn (by grind) hd.2 (by grind);have he:=Da.Tp H2 (Bn r st).nx ⟨i,(Bn r st).nx,x⟩;refine⟨H2.Tp (Bn r st).nx ⟨i,(Bn r st).nx,x⟩,h2.trans ⟨he,le_succ _,?_,?_,?_,?_⟩⟩
   ·exact B3 he (le_succ _) h2.ok.tm
   ·exact fun f hm=>B3 he (le_succ _) (h2.ok.gh f hm)
   ·intro e hm;rcases mem_cons.1 hm with rfl | hm
    ·exact⟨Nat.lt_succ_self _,by simp [Ax.Tp],hx (i,x) (by simp)⟩
    ·exact FG he (le_succ _) h2.ok.so e hm
   ·show (i::(Bn r st).so.map DE.id).Nodup;refine nodup_cons.2 ⟨fun hm=>?_,h2.ok.nd⟩;rw [(EH r st).2.2.2.2.2]at hm;rcases List.mem_append.1 hm with hm | hm
    ·grind
    ·obtain⟨e,h3,h4⟩:=mem_map.1 hm;simp_all
def yB (m:Nat) (id:Ah):(k:Kd)->Pa T.den k->List (Ah×DX T)
 | .t_ E,l=>match m with
   | 1=>[(id, .row E l)]
   | 2=>[(1000003::id, .deep E (List.length l:Nat) l none)]
   | _=>[]
 | _,_=>[]
def nF:List Nat->Nat->Ah->(ks:List Kd)->DK T.den ks->List (Ah×DX T)
 | m::ms,i,E_,k::ks,x=>yB m (i::E_) k x.1++nF ms (i+1) E_ ks x.2
 | _,_,_,_,_=>[]
def pP:List (List Nat)->Nat->Ah->(ts:List VT)->RT T ts->List (Ah×DX T)
 | m::_,p,E_,[t],x=>nF m 0 (p::E_) (Fv T t) (Or t x)
 | m::ms,p,E_,t::u::ts,x=>nF m 0 (p::E_) (Fv T t) (Or t x.1)++pP ms (p+1) E_ (u::ts) x.2
 | _,_,_,_,_=>[]
def rV (m:Nat) (id:Ah) (k:Kd) (x:Pa T.den k):DC T:=match PD m k with
 | 0=> .k k x
 | _=>match m with
   | 2=> .c (.j_ (1000003::id))
   | _=> .c (.j_ id)
def TL:List Nat->Nat->Ah->(ks:List Kd)->DK T.den ks->List (DC T)
 | m::ms,i,E_,k::ks,x=>rV m (i::E_) k x.1::TL ms (i+1) E_ ks x.2
 | [],i,E_,k::ks,x=> .k k x.1::TL [] i E_ ks x.2
 | _,_,_,[],_=>[]
def ai (m:List Nat) (E_:Ah):(t:VT)->ED T t->DV T
 | .k kd,x=> .c (rV (m.headD 0) (0::E_) kd x)
 | .s E,x=> .agg (TL m 0 E_ (T.ks E) (T.un E x))
 | .f g,_=> .c (.c (.fn g))
def NX:List (List Nat)->Nat->Ah->(ts:List VT)->RT T ts->List (DV T)
 | m::_,p,E_,[t],x=>[ai m (p::E_) t x]
 | [],p,E_,[t],x=>[ai [] (p::E_) t x]
 | m::ms,p,E_,t::u::ts,x=>ai m (p::E_) t x.1::NX ms (p+1) E_ (u::ts) x.2
 | [],p,E_,t::u::ts,x=>ai [] (p::E_) t x.1::NX [] (p+1) E_ (u::ts) x.2
 | _,_,_,[],_=>[]
def dvR (ow:List (List Nat)) (E_:Ah) (ts:List VT) (x:RT T ts):DV T:=match NX ow 0 E_ ts x with
 | [v]=>v
 | vs=> .tup vs
theorem Mi (m:Nat) (id:Ah) (k:Kd) (x:Pa T.den k):(Kp m k x).length =(XW m id k).length /\(XW m id k).length =PD m k:=by
 cases k with
 | t_ E=>
   match m with
   | 0=>exact⟨rfl,rfl⟩
   | 1=>exact⟨rfl,rfl⟩
   | 2=>exact⟨rfl,rfl⟩
   | _+3=>exact⟨rfl,rfl⟩
 | _=>exact⟨rfl,rfl⟩
theorem Jn: ∀ {a b:List OE} {i j:List Ah},a.length=i.length->C1 (a++b) (i++j)=C1 a i++C1 b j
 | [],_,[],_,_=>rfl
 | [],_,_::_,_,h=>by simp at h
 | _::_,_,[],_,h=>by simp at h
 | o::a,b,x::i,j,h=>by simp only [cons_append,C1,Jn (a:=a) (i:=i) (by simpa using h)]
theorem rW (m:Nat) (id:Ah) (k:Kd) (x:Pa T.den k):(yB m id k x).map ah=C1 (Kp m k x) (XW m id k)/\(yB m id k x).map (·.1)=XW m id k/\ ∀ p∈yB m id k x,p.2.ok:=by
 cases k with
 | t_ E=>
   match m with
   | 0=>exact⟨rfl,rfl,fun p hp=>by cases hp⟩
   | 1=>exact⟨rfl,rfl,fun p hp=>by rcases mem_singleton.1 hp with rfl;trivial⟩
   | 2=>exact⟨rfl,rfl,fun p hp=>by rcases mem_singleton.1 hp with rfl;trivial⟩
   | _+3=>exact⟨rfl,rfl,fun p hp=>by cases hp⟩
 | _=>exact⟨rfl,rfl,fun p hp=>by cases hp⟩
theorem M0: ∀ (ms:List Nat) (i:Nat) (E_:Ah) (ks:List Kd) (x:DK T.den ks),(CA ms ks x).length =(Md ms i E_ ks).length /\(Md ms i E_ ks).length =FI ms ks
 | [],_,_,_,_=>⟨rfl,rfl⟩
 | _::_,_,_,[],_=>⟨rfl,rfl⟩
 | m::ms,i,E_,k::ks,x=>by obtain⟨a,b⟩:=M0 ms (i+1) E_ ks x.2;obtain⟨c,d⟩:=Mi m (i::E_) k x.1;simp_all [CA,Md,FI]
theorem TM: ∀ (ms:List Nat) (i:Nat) (E_:Ah) (ks:List Kd) (x:DK T.den ks),(nF ms i E_ ks x).map ah=C1 (CA ms ks x) (Md ms i E_ ks)/\(nF ms i E_ ks x).map (·.1)=Md ms i E_ ks/\ ∀ p∈nF ms i E_ ks x,p.2.ok
 | [],_,_,_,_=>⟨rfl,rfl,fun p hp=>by cases hp⟩
 | _::_,_,_,[],_=>⟨rfl,rfl,fun p hp=>by cases hp⟩
 | m::ms,i,E_,k::ks,x=>by obtain⟨a,b,c⟩:=TM ms (i+1) E_ ks x.2;grind [rW,nF,CA,Md,Jn,Mi]
theorem jT: ∀ (ow:List (List Nat)) (p:Nat) (E_:Ah) (ts:List VT) (x:RT T ts),(pP ow p E_ ts x).map ah=C1 (Dv ow ts x) (XX T ow p E_ ts)/\(pP ow p E_ ts x).map (·.1)=XX T ow p E_ ts/\ ∀ q∈pP ow p E_ ts x,q.2.ok
 | [],_,_,[],_=>⟨rfl,rfl,fun q hq=>by cases hq⟩
 | [],_,_,[_],_=>⟨rfl,rfl,fun q hq=>by cases hq⟩
 | [],_,_,_::_::_,_=>⟨rfl,rfl,fun q hq=>by cases hq⟩
 | _::_,_,_,[],_=>⟨rfl,rfl,fun q hq=>by cases hq⟩
 | m::ms,p,E_,[t],x=>by
   obtain⟨a,b,c⟩:=TM m 0 (p::E_) (Fv T t) (Or t x);have e:XX T (m::ms) p E_ [t]=Md m 0 (p::E_) (Fv T t):=by cases ms<;>simp [XX]
   rw [e];exact⟨a,b,c⟩
 | m::ms,p,E_,t::u::ts,x=>by
   obtain⟨a,b,c⟩:=TM m 0 (p::E_) (Fv T t) (Or t x.1);obtain⟨a',b',c'⟩:=jT ms (p+1) E_ (u::ts) x.2;refine⟨?_,?_,fun q hq=>?_⟩
   ·grind [pP,Dv,XX,Jn,M0]
   all_goals grind [pP,XX]
theorem uX {pre:List Ah} {n:Ah} {post:List Ah}:(pre++([n]++post)).getD pre.length []=n:=by grind
theorem TN (m:Nat) (id:Ah) (k:Kd) (x:Pa T.den k) (pre post:List Ah):(rV m id k x).toC =(PO m pre.length k x).toC (pre++(XW m id k++post)):=by unfold rV PO XW;grind [PC.toC,DC.toC]
theorem TO: ∀ (ms:List Nat) (i:Nat) (E_:Ah) (ks:List Kd) (x:DK T.den ks) (pre post:List Ah),Av (TL ms i E_ ks x)=(FH ms pre.length ks x).map (PC.toC (pre++(Md ms i E_ ks++post)))
 | [],_,_,[],_,_,_=>by simp [TL,FH,Av]
 | _::_,_,_,[],_,_,_=>by simp [TL,FH,Av]
 | [],i,E_,k::ks,x,pre,post=>by have:=TO [] i E_ ks x.2 pre post;simp only [TL,FH,Av,map_cons,PC.toC,DC.toC,List.cons.injEq,true_and];exact this
 | m::ms,i,E_,k::ks,x,pre,post=>by have h1:=TN m (i::E_) k x.1 pre (Md ms (i+1) E_ ks++post);have h2:=TO ms (i+1) E_ ks x.2 (pre++XW m (i::E_) k) post;rw [length_append,(Mi m (i::E_) k x.1).2]at h2;grind [TL,FH,Av,Md]
theorem Pg (m:List Nat) (E_:Ah) (t:VT) (x:ED T t) (pre post:List Ah):(ai m E_ t x).toV =(Jg m pre.length t x).toV (pre++(Md m 0 E_ (Fv T t)++post)):=by
 cases t with
 | k kd=>
   simp only [ai,Jg,PP.toV,DV.toV,Fv];cases m with
   | nil=>
     have:=TN 0 (0::E_) kd x pre post;have e:XW 0 (0::E_) kd=[]:=by unfold XW PD;grind
     grind [Md]
   | cons a m=>
     grind [TN,Md]
 | s E=>grind [ai,Jg,PP.toV,DV.toV,TO,Fv]
 | f g=>simp only [ai,Jg,PP.toV,DV.toV,DC.toC,PC.toC]
theorem TP: ∀ (ow:List (List Nat)) (p:Nat) (E_:Ah) (ts:List VT) (x:RT T ts) (pre post:List Ah),Be (NX ow p E_ ts x)=(Ca ow pre.length ts x).map (PP.toV (pre++(XX T ow p E_ ts++post)))
 | [],_,_,[],_,_,_=>by simp [NX,Ca,Be]
 | _::_,_,_,[],_,_,_=>by simp [NX,Ca,Be]
 | [],p,E_,[t],x,pre,post=>by have:=Pg [] (p::E_) t x pre post;grind [Md,NX,Ca,Be,XX]
 | m::ms,p,E_,[t],x,pre,post=>by have:=Pg m (p::E_) t x pre post;grind [XX,NX,Ca,Be]
 | [],p,E_,t::u::ts,x,pre,post=>by
   have h1:=Pg [] (p::E_) t x.1 pre post;have e:Md [] 0 (p::E_) (Fv T t)=[]:=by cases Fv T t<;>rfl
   rw [e]at h1;have h2:=TP [] (p+1) E_ (u::ts) x.2 pre post;simp only [NX,Ca,Be,map_cons,h1,h2,XX]
 | m::ms,p,E_,t::u::ts,x,pre,post=>by have h1:=Pg m (p::E_) t x.1 pre (XX T ms (p+1) E_ (u::ts)++post);have h2:=TP ms (p+1) E_ (u::ts) x.2 (pre++Md m 0 (p::E_) (Fv T t)) post;rw [length_append,(M0 m 0 (p::E_) (Fv T t) (Or t x.1)).2]at h2;grind [NX,Ca,Be,XX]
theorem uY (ow:List (List Nat)) (E_:Ah) (ts:List VT) (x:RT T ts):(dvR ow E_ ts x).toV =NW (XX T ow 0 E_ ts) (Ca ow 0 ts x):=by
 have h:=TP ow 0 E_ ts x [] [];simp only [List.length_nil,nil_append,append_nil]at h;unfold dvR NW;split
 ·rename_i v hv;rw [hv]at h;simp only [Be]at h;split
  ·grind
  ·rename_i Tg
   match hp:Ca ow 0 ts x,h,Tg with
   | [p],_,Tg=>grind
   | [],h,_=>simp at h
   | _::_::_,h,_=>simp at h
 ·rename_i Tg;split
  ·rename_i p hp;rw [hp]at h
   match hv:NX ow 0 E_ ts x,h,Tg with
   | [v],_,Tg=>grind
   | [],h,_=>simp [Be]at h
   | _::_::_,h,_=>simp [Be]at h
  ·simp only [DV.toV,h]
theorem pQ (m:Nat) (id:Ah) (k:Kd) (x:Pa T.den k):(rV m id k x).ok :=by unfold rV;grind [DC.ok]
theorem fw: ∀ (ms:List Nat) (i:Nat) (E_:Ah) (ks:List Kd) (x:DK T.den ks),Cl (TL ms i E_ ks x)
 | [],_,_,[],_=>by simp [TL,Cl]
 | _::_,_,_,[],_=>by simp [TL,Cl]
 | [],i,E_,k::ks,x=>by simp only [TL,Cl,DC.ok,true_and];exact fw [] i E_ ks x.2
 | m::ms,i,E_,k::ks,x=>by simp only [TL,Cl];exact⟨pQ _ _ _ _,fw ms (i+1) E_ ks x.2⟩
theorem Wu {H:Ax T} {n:Nat} (m:List Nat) (E_:Ah) (t:VT) (x:ED T t):(ai m E_ t x).ok H n:=by cases t<;>grind [ai,DV.ok,pQ,fw,DC.ok]
theorem fx {H:Ax T} {n:Nat}: ∀ (ow:List (List Nat)) (p:Nat) (E_:Ah) (ts:List VT) (x:RT T ts),CZ H n (NX ow p E_ ts x)
 | [],_,_,[],_=>by simp [NX,CZ]
 | _::_,_,_,[],_=>by simp [NX,CZ]
 | [],p,E_,[t],x=>by simp only [NX,CZ,and_true];exact Wu _ _ _ _
 | m::ms,p,E_,[t],x=>by simp only [NX,CZ,and_true];exact Wu _ _ _ _
 | [],p,E_,t::u::ts,x=>by simp only [NX,CZ];exact⟨Wu _ _ _ _,fx [] (p+1) E_ (u::ts) x.2⟩
 | m::ms,p,E_,t::u::ts,x=>by simp only [NX,CZ];exact⟨Wu _ _ _ _,fx ms (p+1) E_ (u::ts) x.2⟩
theorem Ab7 {H:Ax T} {n:Nat} (ow:List (List Nat)) (E_:Ah) (ts:List VT) (x:RT T ts):(dvR ow E_ ts x).ok H n:=by
 have:=fx (H:=H) (n:=n) ow 0 E_ ts x;unfold dvR;split
 all_goals simp_all [CZ,DV.ok]
def Aez (m:Nat) (id:Ah) (k:Kd):Bool:=match PD m k with
 | 0=>true
 | _=>match m with
   | 2=>true
   | _=> !Ep id&& !CM id
def yC:List Nat->Nat->Ah->List Kd->Bool
 | m::ms,i,E_,k::ks=>Aez m (i::E_) k&&yC ms (i+1) E_ ks
 | _,_,_,_=>true
def okR (T:Bm):List (List Nat)->Nat->Ah->List VT->Bool
 | m::ms,p,E_,t::ts=>yC m 0 (p::E_) (Fv T t)&&okR T ms (p+1) E_ ts
 | _,_,_,_=>true
theorem La: ∀ {a b:List OE} {i j:List Ah},KO a i=true->KO b j=true->KO (a++b) (i++j)=true
 | [],_,[],_,_,h=>h
 | [],_,_::_,_,h,_=>by simp [KO]at h
 | _::_,_,[],_,h,_=>by simp [KO]at h
 | o::a,b,x::i,j,h,k=>by simp_all [KO,La]
theorem rX {m:Nat} {id:Ah} {k:Kd} (x:Pa T.den k) (h:Aez m id k=true):KO (Kp m k x) (XW m id k)=true:=by
 cases k with
 | t_ E=>
   match m with
   | 0=>rfl
   | 1=>
     have h:(!Ep id&& !CM id)=true:=h;simp only [and_eq_true,not_eq_true']at h;show ((Ep id==false&& !CM id)&&true)=true;grind
   | 2=>rfl
   | _+3=>rfl
 | _=>rfl
theorem TQ: ∀ {ms:List Nat} {i:Nat} {E_:Ah} {ks:List Kd} (x:DK T.den ks),yC ms i E_ ks=true->KO (CA ms ks x) (Md ms i E_ ks)=true
 | [],_,_,_,_,_=>rfl
 | _::_,_,_,[],_,_=>rfl
 | m::ms,i,E_,k::ks,x,h=>by simp only [yC,and_eq_true]at h;exact La (rX x.1 h.1) (TQ x.2 h.2)
theorem jU: ∀ {ow:List (List Nat)} {p:Nat} {E_:Ah} {ts:List VT} (x:RT T ts),okR T ow p E_ ts=true->KO (Dv ow ts x) (XX T ow p E_ ts)=true
 | [],_,_,[],_,_=>rfl
 | [],_,_,[_],_,_=>rfl
 | [],_,_,_::_::_,_,_=>rfl
 | _::_,_,_,[],_,_=>rfl
 | m::ms,p,E_,[t],x,h=>by
   simp only [okR,and_eq_true]at h;have e:XX T (m::ms) p E_ [t]=Md m 0 (p::E_) (Fv T t):=by cases ms<;>simp [XX]
   rw [e];exact TQ (Or t x) h.1
 | m::ms,p,E_,t::u::ts,x,h=>by rw [okR,and_eq_true]at h;rw [XX];exact La (TQ (Or t x.1) h.1) (jU x.2 h.2)
def LH (ns:List Ah) (i:Ah):Bool:=match ns with
 | []=>false
 | n::r=>match Bc i n with
   | true=>true
   | false=>match adX n i with
     | true=>true
     | false=>LH r i
where adX (n i:Ah):Bool:=match i with
 | m::_::j=>Nat.beq m 1000007&&Bc j n
 | _=>false
theorem pR: ∀ (ns:List Ah) (i:Ah),LH ns i=LW ns i
 | [],_=>rfl
 | n::r,i=>by
   have e:LH.adX n i=DM n i:=by unfold LH.adX DM;split<;>simp [CW]
   simp only [LH,LW,List.any_cons,e,CW];have:=pR r i;unfold LW at this;rw [this];cases i==n<;>cases DM n i<;>rfl
def nG {P:Program} {I:World->Prop} (Γ:List (CE T P I)) (st:Af T) (f:FuncId) (xs:List Operand) (d:Nat):M (Af T):=
 match Je st [] xs with
 | some vs=>match MU st vs,RH vs with
   | some ws,[]=>match Qv f ws Γ with
     | some ⟨e,x⟩=>match e.ow with
       | []=> .no
       | m::ms=>Tf (LE (XX T (m::ms) 0 (d::st.pre) e.rs)&&okR T (m::ms) 0 (d::st.pre) e.rs) (.opt (e.run x) fun r=>
          .ret ((Bn (pP (m::ms) 0 (d::st.pre) e.rs r) (st.IN (LH (XX T (m::ms) 0 (d::st.pre) e.rs)))).put (some d) (dvR (m::ms) (d::st.pre) e.rs r)))
     | none=> .no
   | _,_=> .no
 | none=> .no
theorem rY {H:Ax T} {P:Program} {I:World->Prop} {Γ:List (CE T P I)} {st:Af T} (hw:AI H st) {f:FuncId} {xs:List Operand} {o:Oper} (hk:BH o.op= .call f xs) {d:Nat} (hd:o.dst=some d):
 Yl (nG Γ st f xs d) (fun a_=>(∃ H',Nx H st H' a_)/\a_.pre=st.pre/\ ∀ K:St->Prop,K a_.toSt->DL P I o st.toSt K):=by
 unfold nG;split
 ·rename_i vs hvs;split
  ·rename_i ws hws atf;split
   ·rename_i e x hx;obtain⟨he,hx⟩:=GA hx;split
    ·exact Yl.no
    ·rename_i m ms how;refine Yl.Tf fun hg=>Yl.opt fun r hr=>Yl.ret ?_;simp only [and_eq_true]at hg;obtain⟨g1,g2⟩:=hg;have hnd:=Gu g1;obtain⟨a1,a2,a3⟩:=Dq (key:=[]) hw (fun _ hl=>by cases hl) rfl hvs;change (st.toSt.args true xs).1 at a2;change (st.toSt.args true xs).2=Be vs at a3;have hc:=e.okx (by grind) x r hr;rw [he,how]at hc;have hs:(Be vs).map (BF st.toSt)=Gz e.ps x:=by rw [GP hws,hx]
     have hp:LH (XX T (m::ms) 0 (d::st.pre) e.rs)=LW (XX T (m::ms) 0 (d::st.pre) e.rs):=by grind [pR]
     rw [hp];generalize hns:XX T (m::ms) 0 (d::st.pre) e.rs=ns at *;obtain⟨⟨H1,n1⟩,k1,k2,k3,k4,k5⟩:=Af.ab0 hw (LW ns);obtain⟨x1,x2,x3⟩:=jT (m::ms) 0 (d::st.pre) e.rs r;rw [hns]at x1 x2;obtain⟨H2,n2⟩:=JJ (l:=pP (m::ms) 0 (d::st.pre) e.rs r) n1 x3 (by grind) (fun p hp' e' he' q=>by
      have h1:=k5 e' he';have h2:p.1∈ns:=by grind
      grind [LW])
     obtain⟨s1,s2,s3,s4,s5,_⟩:=EH (pP (m::ms) 0 (d::st.pre) e.rs r) (st.IN (LW ns));obtain⟨H3,n3⟩:=Af.H_ n2 (some d) (Ab7 (m::ms) (d::st.pre) e.rs r);refine⟨⟨H3,n3⟩,by rw [AU,s3,k4],fun K hK=>?_⟩;have ahh:B8 ((st.toSt.e_ (LW ns) (C1 (Dv (m::ms) e.rs r) ns++(st.toSt.so.filter fun e=> !(LW ns e.id)).map (Au.e_ (LW ns)))).put (some d) (NW ns (Ca (m::ms) 0 e.rs r)))
      ((Bn (pP (m::ms) 0 (d::st.pre) e.rs r) (st.IN (LW ns))).put (some d) (dvR (m::ms) (d::st.pre) e.rs r)).toSt :=by
      rw [Af.k_,uY,hns];refine B8.put ?_ _ _;have t1:(Bn (pP (m::ms) 0 (d::st.pre) e.rs r) (st.IN (LW ns))).toSt.tm =(st.IN (LW ns)).toSt.tm :=by grind [Af.toSt]
      have t2:(Bn (pP (m::ms) 0 (d::st.pre) e.rs r) (st.IN (LW ns))).toSt.gh =(st.IN (LW ns)).toSt.gh :=by simp only [Af.toSt,s2]
      have t3:(Bn (pP (m::ms) 0 (d::st.pre) e.rs r) (st.IN (LW ns))).toSt.so =C1 (Dv (m::ms) e.rs r) ns++(st.toSt.so.filter fun e=> !(LW ns e.id)).map (Au.e_ (LW ns)):=by grind
      refine⟨by rw [t1];exact k1.get.1,fun i=>by rw [t1];exact k1.get.2 i,fun y hy=>by rw [t3]at hy;exact hy,fun hn=>by rw [t3];exact hn,by rw [t2];exact k2.get,?_⟩;show (Bn (pP (m::ms) 0 (d::st.pre) e.rs r) (st.IN (LW ns))).pre =st.pre;rw [s3,k4]
     intro F a w G Q hI hR;refine Oper.wp_mono (fun _ _ ⟨s,G',hs',hR'⟩=>⟨_,G',hK,(hs'▸hR').less ahh⟩) (DL.aun (K:=(· =(st.toSt.e_ (LW ns) (C1 (Dv (m::ms) e.rs r) ns++(st.toSt.so.filter fun e=> !(LW ns e.id)).map (Au.e_ (LW ns)))).put (some d) (NW ns (Ca (m::ms) 0 e.rs r)))) d hk hd a2 ?_ ?_ ?_ ?_ hnd rfl F a w G Q hI hR)
     ·grind [Kq]
     ·rw [a3,F5,atf]
     ·grind
     ·rw [<-hns];exact jU r g2
   ·exact Yl.no
  ·exact Yl.no
 ·exact Yl.no
end Go.PL
set_option linter.all false
namespace Go.PL
open Go Go.RowKit
variable {T:Bm}
def Ya (E E':Nat) (l:List (T.den E')):Option (List (T.den E)):=match Nat.decEq E' E with
 | .isTrue h=>some (h▸l)
 | .isFalse _=>none
theorem Ks {E E':Nat} {l:List (T.den E')} {m:List (T.den E)} (h:Ya E E' l=some m): ∃ e:E'=E,m=e▸l:=by
 unfold Ya at h;split at h
 all_goals grind
theorem Yb {den:Nat->Type} {enc: ∀ E,den E->List C}: ∀ (ks:List Kd) (y:DK den ks),(BG enc ks y).map Py=BG enc ks y
 | [],_=>rfl
 | k::ks,y=>by simp only [BG,map_cons,Yb ks y.2];cases k<;>rfl
theorem Vh: ∀ (ks:List Kd) (y:DK T.den ks),(BX T ks y).map Py=BG T.enc ks y
 | [],_=>rfl
 | k::ks,y=>by simp only [BX,BG,map_cons,Vh ks y.2];cases k<;>rfl
theorem QC (E:Nat) (n:Int): ∀ (k:Int) (l:List (T.den E)),(AC T E n k l).map Py=l.flatMap (T.enc E)
 | _,[]=>rfl
 | k,x::l=>by
   rw [AC,List.map_append,QC E n (k+1) l,flatMap_cons];congr 1;split
   ·rw [Bm.aaV,Vh,T.aaT]
   ·rw [<-T.aaT,Yb]
def pDT (r id i:Ah):Bool:=match Bc i r with
 | true=>true
 | false=>LH.adX id i
theorem Lb (n i:Ah):LH.adX n i=DM n i:=by unfold LH.adX DM;split<;>simp [CW]
theorem Ab8 (r id:Ah):pDT r id=pD r id:=by grind [pDT,pD,CW,Lb]
theorem abU {id:Ah} {t:Nat} {x:DX T}: ∀ {l:List (DE T)} {e:DE T},(l.map DE.id).Nodup ->e∈S9 id t x l->(e∈l/\e.id ≠ id)\/e=⟨id,t,x⟩
 | [],e,_,h=>by cases h
 | a::r,e,hn,h=>by
   rw [map_cons]at hn;obtain⟨n1,n2⟩:=nodup_cons.1 hn;unfold S9 at h;split at h
   ·rename_i hb;have hb:=AP.1 hb;grind
   ·rename_i hb;rcases mem_cons.1 h with rfl | h
    ·exact .inl ⟨by simp,fun q=>by rw [AP.2 q]at hb;cases hb⟩
    ·rcases abU n2 h with ⟨h1,h2⟩ | h
     ·exact .inl ⟨by simp [h1],h2⟩
     ·exact .inr h
theorem dg {H:Ax T} {st:Af T} (hw:AI H st) {p:Ah->Bool} {e:Au} (h:e∈(st.IN p).toSt.so): ∃ d∈st.toSt.so,p d.id=false/\e=d.e_ p:=by rw [(Af.ab0 hw p).2.2.2.1]at h;grind
theorem Lc {A B:St} (h1:JG A.tm B.tm) (h2:JG A.gh B.gh) (h3: ∀ e∈B.so,e∈A.so) (h4:(B.so.map (·.id)).Nodup) (h5:B.pre=A.pre):B8 A B:=⟨h1.get.1,h1.get.2,h3,fun _=>h4,h2.get,h5⟩
theorem FQ {H:Ax T} {st:Af T} (hw:AI H st):(st.toSt.so.map (·.id)).Nodup :=by
 have e:st.toSt.so.map (·.id)=st.so.map DE.id:=by grind [Af.toSt,List.map_congr_left,DE.toE_id]
 rw [e];exact hw.nd
theorem Jo {α:Type} [Inhabited α] {l:List α} {i:Int} {x:α} (h:idx l i=some x):0<=i/\i<(l.length:Int)/\l[i.toNat]? =some x:=by have hi:=L7 h;have:=jb h;grind
def GR:(ks:List Kd)->DK T.den ks->Nat->Option ((F:Nat)×List (T.den F))
 | .t_ F::_,y,0=>some ⟨F,y.1⟩
 | _::ks,y,p+1=>GR ks y.2 p
 | _,_,_=>none
theorem Ow: ∀ {ks:List Kd} {y:DK T.den ks} {p:Nat} {F:Nat} {l:List (T.den F)},GR ks y p=some ⟨F,l⟩->(BX T ks y)[p]? =some (.isl F (T.sz F) l.length (l.flatMap (T.enc F)))/\p<ks.length
 | [],_,_,_,_,h=>by simp [GR]at h
 | .t_ F'::ks,y,0,F,l,h=>by simp only [GR,injEq]at h;injection h with h1 h2;subst h1;have h2:=eq_of_heq h2;subst h2;exact⟨rfl,by simp⟩
 | .int k::ks,y,0,F,l,h=>by simp [GR]at h
 | .bool ::ks,y,0,F,l,h=>by simp [GR]at h
 | .str ::ks,y,0,F,l,h=>by simp [GR]at h
 | k::ks,y,p+1,F,l,h=>by
   have h:GR ks y.2 p=some ⟨F,l⟩:=by cases k<;>simpa only [GR] using h
   obtain⟨a,b⟩:=Ow h;exact⟨by simpa only [BX,List.getElem?_cons_succ] using a,by simp;omega⟩
def GT (F:Nat) (l:List (T.den F)):(ks:List Kd)->DK T.den ks->Nat->Option (DK T.den ks)
 | .t_ F'::_,y,0=>match Nat.decEq F F' with
   | .isTrue h=>some (h▸l,y.2)
   | .isFalse _=>none
 | k::ks,y,p+1=>match GT F l ks y.2 p with
   | some z=>some (y.1,z)
   | none=>none
 | _,_,_=>none
theorem M1 {F:Nat} {l:List (T.den F)}: ∀ {ks:List Kd} {y z:DK T.den ks} {p:Nat},GT F l ks y p=some z->BX T ks z=(BX T ks y).set p (.isl F (T.sz F) l.length (l.flatMap (T.enc F)))/\p<ks.length
 | [],_,_,_,h=>by simp [GT]at h
 | .t_ F'::ks,y,z,0,h=>by
   simp only [GT]at h;split at h
   ·rename_i e _;subst e;injection h with h;subst h;exact⟨rfl,by simp⟩
   ·cases h
 | .int k::ks,y,z,0,h=>by simp [GT]at h
 | .bool ::ks,y,z,0,h=>by simp [GT]at h
 | .str ::ks,y,z,0,h=>by simp [GT]at h
 | k::ks,y,z,p+1,h=>by
   have h:(match GT F l ks y.2 p with | some z=>some ((y.1,z):Pa T.den k×DK T.den ks) | none=>none)=some z:=by cases k<;>simpa only [GT] using h
   split at h
   ·rename_i z' hz;injection h with h;subst h;obtain⟨a,b⟩:=M1 hz;exact⟨by simp only [BX,List.set_cons_succ];rw [a],by simp;omega⟩
   ·cases h
theorem QD {E:Nat} {n:Int} {c:C} {p:Nat} {x':T.den E}: ∀ {l:List (T.den E)} {k:Int} {i:Nat} {x:T.den E},l[i]? =some x->k+i<n->T.aaV E x'=(T.aaV E x).set p c->p<T.sz E->(AC T E n k l).set (i*T.sz E+p) c=AC T E n k (l.set i x')
 | [],_,_,_,h,_,_,_=>by simp at h
 | y::l,k,0,x,h,hn,hx,hp=>by simp only [List.getElem?_cons_zero,injEq]at h;simp_all [AC,Ey]
 | y::l,k,i+1,x,h,hn,hx,hp=>by
   have hl:(if k<n then T.aaV E y else T.enc E y).length =T.sz E:=by grind [Ey]
   rw [List.set_cons_succ,AC,AC,List.set_append_right _ _ (by rw [hl,add_mul,one_mul];omega),hl,show (i+1)*T.sz E+p - T.sz E=i*T.sz E+p by rw [add_mul,one_mul];omega];rw [QD (by simpa using h) (by push_cast at hn;omega) hx hp]
theorem rZ (E:Nat) (x:T.den E):Am (T.aaV E x)=true:=by
 have: ∀ (ks:List Kd) (y:DK T.den ks),Am (BX T ks y)=true:=by
  intro ks;induction ks with
  | nil=>intro _;rfl
  | cons k ks ih=>
    intro y;simp only [BX,Am,and_eq_true];exact⟨by cases k<;>rfl,ih y.2⟩
 exact this _ _
def Yld (P:Program) (I:World->Prop) (o:Oper) (A B:St):Prop:= ∀ (F:Fr) (a:Act) (w:World) (G:AF),F.I=I->R F A a w G-> ∃ v G',(∀ w',C6 w w'->(execOp a.eval o).run P w'= .ok (.value v) w')/\R F B (a.put o.dst v) w G'
theorem Yld.esc {P:Program} {I:World->Prop} {o:Oper} {A B:St} {K:St->Prop} (h:Yld P I o A B) (hK:K B):DL P I o A K:=fun F a w G Q hI hR=>by obtain⟨v,G',h1,h2⟩:=h F a w G hI hR;exact AK (h1 w (C6.refl w)) ⟨_,G',hK,h2⟩
theorem sa {w w':World} {b k:Nat} {v:Value} (h:C6 w w') (hc:w.cell? ⟨b,k,none⟩=some v):w'.cell? ⟨b,k,none⟩=some v:=by rw [W_ (h.block b (block_lt_of_cell hc))];exact hc
def dlx (P:Program) (o:Oper) (st:Af T):M (Af T):=match o.op with
 | .load t x=>match o.dst,st.arg [] x,KS P t with
   | some d,some (.c (.rp id N i off)),some (false,1)=>match Ki st id with
     | some ⟨E,(nn,l,none)⟩=>Tf (Ep id&&(Nat.beq N (T.sz E)&&(!(CM (d::st.pre))&& !(Ep (d::st.pre))))) (.opt (idx l i) fun x=> .opt (n_ (i<nn)) fun _=>match GR (T.ks E) (T.un E x) off with
       | some ⟨F,y⟩=> .ret ((Bn [(d::st.pre, .row F y)] ((st.IN (pDT (d::st.pre) id)).abe id (.deep E nn l (some (i,off))))).put (some d) (.c (.c (.j_ (d::st.pre)))))
       | none=> .no)
     | _=> .no
   | _,_,_=> .no
 | _=> .no
theorem uZ {H:Ax T} {P:Program} {I:World->Prop} {st:Af T} (hw:AI H st) {o:Oper}:Yl (dlx P o st) (fun a_=>(∃ H',Nx H st H' a_)/\a_.pre=st.pre/\Yld P I o st.toSt a_.toSt):=by
 unfold dlx;split
 ·rename_i t x hop;split
  ·rename_i d id N i off hd hx ht;split
   ·rename_i E nn l hdr;refine Yl.Tf fun hg=>Yl.opt fun xx hxx=>Yl.opt fun u hu=>?_;simp only [and_eq_true,beq_eq,not_eq_true']at hg;obtain⟨g1,g2,g3,g4⟩:=hg;subst g2;split
    ·rename_i F y hy;refine Yl.ret ?_;have hin:=CJ hu;obtain⟨i0,i1,hxi⟩:=Jo hxx;obtain⟨a1,a2,a3⟩:=HC hw hx;obtain⟨hmk,hlr,e,he1,he2,he3⟩:=B9 hdr;obtain⟨hc,ace⟩:=Ow hy;have hE:e.toE=⟨id,some (E,T.sz E,l.length),AC T E nn 0 l,true⟩:=by unfold DE.toE;rw [he3,he2];rfl
     obtain⟨⟨H1,n1⟩,k1,k2,k3,k4,k5⟩:=Af.ab0 hw (pDT (d::st.pre) id);have hp:pDT (d::st.pre) id=pD (d::st.pre) id:=Ab8 _ _;rw [hp]at n1 k1 k2 k3 k4 k5 ⊢;have ajt:d::st.pre ≠ id:=fun q=>by rw [q,g1]at g4;cases g4
     obtain⟨H2,n2⟩:=Af.aa8 n1.ok id (x:= .deep E nn l (some (i,off))) trivial;obtain⟨H3,n3⟩:=JJ (l:=[(d::st.pre,DX.row F y)]) (n1.trans n2) (fun p hp'=>by rcases mem_singleton.1 hp' with rfl;trivial) (by simp) (fun p hp' e' he' q=>by
      rcases mem_singleton.1 hp' with rfl;have afZ:e'.id∈((st.IN (pD (d::st.pre) id)).so.map DE.id):=by rw [<-XH id (st.IN (pD (d::st.pre) id)).nx (.deep E nn l (some (i,off)))];exact mem_map.2 ⟨e',he',rfl⟩
      grind [pD])
     obtain⟨s1,s2,s3,s4,s5,_⟩:=EH [(d::st.pre,DX.row F y)] ((st.IN (pD (d::st.pre) id)).abe id (.deep E nn l (some (i,off))));obtain⟨H4,n4⟩:=Af.H_ n3 (some d) (v:= .c (.c (.j_ (d::st.pre)))) (by simp only [DV.ok,DC.ok]);refine⟨⟨H4,n4⟩,by rw [AU,s3];exact k4,fun Fr a w G hI hR=>?_⟩;have hL:st.toSt.K_ id=some e.toE:=hR.M_ (mem_map.2 ⟨e,he1,rfl⟩) (by rw [hE]) g1;have hk:e.toE.cs[i.toNat*T.sz E+off]? =some (.isl F (T.sz F) y.length (y.flatMap (T.enc F))):=by rw [hE];show (AC T E nn 0 l)[_]? =_;rw [Kk hxi ace,if_pos (by omega)];exact hc
     have U_:=hR.arg rfl a2;rw [a3]at U_;simp only [DV.toV,DC.toC,Ab,Ae]at U_;obtain⟨b,hb1,hv⟩:=U_;obtain⟨G',q1,b2,v,q2,q3,q4,q5⟩:=hR.extract hL hk (r:=d::st.pre) g3 g4;rw [hb1]at q2;injection q2 with q2;subst q2;obtain⟨dd,ti,hu',hd',_⟩:=Dc ht;refine⟨v,G',fun w' hS=>?_,?_⟩
     ·simp [execOp,hop,hv,D6 hu' hd' (sa hS q3)]
     ·rw [hd];have am9:=R.put (d:=some d) q1 (show Ab w G' (V.c (C.j_ (d::st.pre))) v by simp only [Ab,Ae];exact⟨q4,q5⟩);refine am9.less ?_;rw [Af.k_];refine B8.put (Lc ?_ ?_ ?_ ?_ ?_) _ _
      ·have:(Bn [(d::st.pre,DX.row F y)] ((st.IN (pD (d::st.pre) id)).abe id (.deep E nn l (some (i,off))))).toSt.tm =(st.IN (pD (d::st.pre) id)).toSt.tm :=by simp only [Af.toSt,s1,s4];rfl
       rw [this];exact k1
      ·have:(Bn [(d::st.pre,DX.row F y)] ((st.IN (pD (d::st.pre) id)).abe id (.deep E nn l (some (i,off))))).toSt.gh =(st.IN (pD (d::st.pre) id)).toSt.gh :=by simp only [Af.toSt,s2];rfl
       rw [this];exact k2
      ·intro z hz;rw [s5]at hz;simp only [map_cons,List.map_nil,List.singleton_append,mem_cons]at hz;simp only [St.e_,mem_cons,mem_map,mem_filter];rcases hz with rfl | hz
       ·exact .inl rfl
       ·right;obtain⟨e3,h1,rfl⟩:=mem_map.1 hz;rcases abU n1.ok.nd h1 with ⟨h1,h2⟩ | h1
        ·obtain⟨d3,h3,h4,h5⟩:=dg hw (mem_map.2 ⟨e3,h1,rfl⟩);have axS:d3.id ≠ id:=by grind [Au.u_,DE.toE_id]
         refine⟨d3.e_ (pD (d::st.pre) id),⟨d3,(by grind [pD]),rfl⟩,?_⟩;grind [El,Au.u_]
        ·subst h1;refine⟨e.toE.e_ (pD (d::st.pre) id),⟨e.toE,⟨mem_map.2 ⟨e,he1,rfl⟩,by grind⟩,rfl⟩,?_⟩;rw [Em (by rw [Au.u_,hE]),Au.u_,Au.afs,hE];rfl
      ·exact FQ n3.ok
      ·rw [show (Bn [(d::st.pre,DX.row F y)] ((st.IN (pD (d::st.pre) id)).abe id (.deep E nn l (some (i,off))))).toSt.pre =st.pre from by show (Bn _ _).pre =_;rw [s3];exact k4];rfl
    ·exact Yl.no
   ·exact Yl.no
  ·exact Yl.no
 ·exact Yl.no
end Go.PL
set_option linter.all false
namespace Go.PL
open Go Go.RowKit
variable {T:Bm}
def Af.acs (st:Af T) (p:Ah->Bool):Af T:=let s:=st.adE (DV.i_ p) (fun _=> .u) (fun _=>false) id;{s with so:=s.so.filter fun e=> !(p e.id)&& !(e.x.i_ p)}
theorem pS: ∀ (l:List (DE T)) (n:Nat),Qp (fun _=>false) id n l=l
 | [],_=>rfl
 | e::r,n=>by simp only [Qp,pS r]
theorem Yc {p:Ah->Bool} (m n:Nat) (tm:Tm T): ∀ i,(AE m (PA (DV.i_ p) (fun _=> .u) n tm)).getD i .undef = .undef \/((AE m (PA (DV.i_ p) (fun _=> .u) n tm)).getD i .undef =(AE m tm).getD i .undef /\((AE m tm).getD i .undef).i_ p=false):=fun i=>by
 unfold AE;simp only [List.getD_eq_getElem?_getD,List.getElem?_map];by_cases hi:i<m
 ·rw [List.getElem?_range hi];simp only [Option.map_some,getD_some,MS (p:=DV.i_ p) (f:=fun _=>DV.u) (by simp [DV.i_])];split
  ·grind [DV.toV]
  ·rename_i h;exact .inr ⟨rfl,DV.afp p _ h⟩
 grind
theorem aj (a b:List V) (i:Nat):(a++b).getD i .undef =if i<a.length then a.getD i .undef else b.getD (i - a.length) .undef :=by grind
theorem jV {p:Ah->Bool}: ∀ (l:List (Nat×Tm T)) (n:Nat),((Qo (DV.i_ p) (fun _=> .u) n l).flatMap fun f=>AE f.1 f.2).length =(l.flatMap fun f=>AE f.1 f.2).length /\ ∀ i,((Qo (DV.i_ p) (fun _=> .u) n l).flatMap fun f=>AE f.1 f.2).getD i .undef = .undef \/
 (((Qo (DV.i_ p) (fun _=> .u) n l).flatMap fun f=>AE f.1 f.2).getD i .undef =(l.flatMap fun f=>AE f.1 f.2).getD i .undef /\((l.flatMap fun f=>AE f.1 f.2).getD i .undef).i_ p=false)
 | [],_=>⟨rfl,fun i=> .inl rfl⟩
 | (m,tm)::r,n=>by
   obtain⟨h1,h2⟩:=jV r (n+tm.length);have hl:(AE m (PA (DV.i_ p) (fun _=> .u) n tm)).length =(AE m tm).length :=by rw [Bw,Bw]
   simp only [Qo,flatMap_cons];refine⟨by rw [length_append,length_append,h1,hl],fun i=>?_⟩;grind [aj,Yc]
theorem M2 {H:Ax T} {st:Af T} (h:AI H st) (p:Ah->Bool):(∃ H',Nx H st H' (st.acs p))/\(st.acs p).pre =st.pre/\(∀ e∈(st.acs p).so,e∈st.so/\p e.id=false/\e.x.i_ p=false):=by obtain⟨H',hN⟩:=Af.adW (p:=DV.i_ p) (f:=fun _=> .u) (q:=fun _=>false) (g:=id) h (fun _=>by simp only [DV.ok]) (fun {x} hx=>hx);refine⟨⟨H',hN.ext,hN.le,Ez hN.ok _⟩,rfl,fun e he=>?_⟩;obtain⟨h1,h2⟩:=mem_filter.1 he;have h1:e∈Qp (fun _=>false) id (st.nx+st.tm.length+Nv st.gh) st.so:=h1;simp_all [pS]
theorem Vi {H H2:Ax T} {st:Af T} (hw:AI H st) {p:Ah->Bool} {id:Ah} {ns:List Ah} {x:DX T} (hid: ∀ n∈ns,p n=true) (hok:AI H2 ((st.acs p).abe id x)) {new:Au} (aam:ah (id,x)=new):cU p id ns new st.toSt ((st.acs p).abe id x).toSt :=by
 refine⟨?_,fun i=>?_,?_,fun i=>?_,fun z hz=>?_,FQ hok,rfl⟩
 ·show (AE _ _).length =(AE _ _).length;rw [Bw,Bw];rfl
 ·exact Yc st.m st.nx st.tm i
 ·exact(jV st.gh _).1
 ·exact(jV st.gh _).2 i
 ·obtain⟨e,he,rfl⟩:=mem_map.1 hz;obtain⟨⟨H1,n1⟩,_,k3⟩:=M2 hw p;rcases abU n1.ok.nd he with ⟨h1,h2⟩ | h1
  ·right;obtain⟨q1,q2,q3⟩:=k3 e h1;refine⟨mem_map.2 ⟨e,q1,rfl⟩,by rw [DE.toE_id];exact h2,fun hq=>?_,?_⟩
   ·grind [DE.toE_id]
   ·unfold DE.toE;cases hx:e.x with
    | box cs=>
      grind [DX.i_,GD]
    | row E l=>grind
    | deep E n l h=>grind
  grind [pO]
def TR (rs:List Ah) (id i:Ah):Bool:=match rs with
 | []=>LH.adX id i
 | r::rs=>match Bc i r with
   | true=>true
   | false=>TR rs id i
theorem fy: ∀ {rs:List Ah} {id r:Ah},r∈rs-> ∀ i,pD r id i=true->TR rs id i=true
 | [],_,_,h,_,_=>by cases h
 | x::rs,id,r,h,i,hi=>by
   unfold TR;split
   ·rfl
   ·rename_i hb;rcases mem_cons.1 h with rfl | h
    ·simp only [pD,or_eq_true,beq_iff_eq]at hi;rcases hi with hi | hi
     ·grind [AP]
     ·have: ∀ rs:List Ah,TR rs id i=true:=by intro rs;induction rs<;>grind [TR,Lb]
      grind
    ·exact fy h i hi
theorem Wv: ∀ {rs:List Ah} {id r:Ah},r∈rs->TR rs id r=true
 | x::rs,id,r,h=>by
   unfold TR;split
   ·rfl
   ·rename_i hb;rcases mem_cons.1 h with rfl | h
    ·rw [AP.2 rfl]at hb;cases hb
    ·exact Wv h
def Aca (h:Option (Int×Nat)) (i:Int):Option Unit:=match h with
 | none=>some ()
 | some (j,_)=>n_ (i=j)
def dsa (P:Program) (o:Oper) (st:Af T):M (Af T):=match o.op with
 | .store t x y=>match o.dst,st.arg [] x,st.arg [] y,KS P t with
   | none,some (.c (.rp id N i off)),some (.c (.c (.j_ r))),some (false,1)=>match Ki st id,DN st r with
     | some ⟨E,(nn,l,h)⟩,some ⟨F,y⟩=>Tf (Ep id&&(Nat.beq N (T.sz E)&&(match h with | none=>true | some (_,o)=>Nat.beq o off))) (.opt (idx l i) fun x=> .opt (n_ (i<nn)) fun _=> .opt (Aca h i) fun _=>
      match GT F y (T.ks E) (T.un E x) off with
      | some z=> .ret ((st.acs (TR [r] id)).abe id (.deep E nn (l.set i.toNat (T.bd E z)) none))
      | none=> .no)
     | _,_=> .no
   | _,_,_,_=> .no
 | _=> .no
theorem Acb {H:Ax T} {P:Program} {I:World->Prop} {st:Af T} (hw:AI H st) {o:Oper}:Yl (dsa P o st) (fun a_=>(∃ H',Nx H st H' a_)/\a_.pre=st.pre/\ ∀ K:St->Prop,K a_.toSt->DL P I o st.toSt K):=by
 unfold dsa;split
 ·rename_i t x y hop;split
  ·rename_i id N i off r hd hx hy ht;split
   ·rename_i E nn l hh F yy hdr A_;refine Yl.Tf fun hg=>Yl.opt fun xx hxx=>Yl.opt fun u hu=>Yl.opt fun u2 hu2=>?_;simp only [and_eq_true,beq_eq]at hg;obtain⟨g1,g2,g3⟩:=hg;subst g2;split
    ·rename_i z hz;have hin:=CJ hu;obtain⟨i0,i1,hxi⟩:=Jo hxx;obtain⟨a1,a2,a3⟩:=HC hw hx;obtain⟨b1,b2,b3⟩:=HC hw hy;obtain⟨hmk,hlr,e,he1,he2,he3⟩:=B9 hdr;obtain⟨r1,_,er,r2,r3,r4⟩:=BQ A_;obtain⟨hz1,ace⟩:=M1 hz;have hE:e.toE=⟨id,some (E,T.sz E,l.length),Bp T E nn l hh,true⟩:=by grind [DE.toE]
     have ajx:T.aaV E (T.bd E z)=(T.aaV E xx).set off (.isl F (T.sz F) yy.length (yy.flatMap (T.enc F))):=by rw [Bm.aaV,T.aet,hz1];rfl
     have aey:=QD (n:=nn) (k:=0) (x':=T.bd E z) (c:= .isl F (T.sz F) yy.length (yy.flatMap (T.enc F))) (p:=off) hxi (by omega) ajx ace;have hcells:(Bp T E nn l hh).set (i.toNat*T.sz E+off) (.isl F (T.sz F) yy.length (yy.flatMap (T.enc F)))=AC T E nn 0 (l.set i.toNat (T.bd E z)):=by
      rw [<-aey];cases hh with
      | none=>rfl
      | some jo=>
        obtain⟨j,o2⟩:=jo;have g3:Nat.beq o2 off=true:=g3;have g3:=eq_of_beq_eq_true g3;have hho:i=j:=CJ hu2;grind [Bp,List.set_set]
     obtain⟨⟨H1,n1⟩,k2,k3⟩:=M2 hw (TR [r] id);obtain⟨H2,n2⟩:=Af.aa8 n1.ok id (x:= .deep E nn (l.set i.toNat (T.bd E z)) none) trivial;refine Yl.ret ⟨⟨H2,n1.trans n2⟩,k2,fun K hK Fr a w G Q hI hR=>?_⟩;have hL:st.toSt.K_ id=some e.toE:=hR.M_ (mem_map.2 ⟨e,he1,rfl⟩) (by rw [hE]) g1;have U_:=hR.arg rfl a2;rw [a3]at U_;simp only [DV.toV,DC.toC,Ab,Ae]at U_;obtain⟨b,hb1,hv⟩:=U_;have hyv:=hR.arg rfl b2;rw [b3]at hyv;simp only [DV.toV,DC.toC,Ab,Ae]at hyv;have hcl:(a.eval y).cells.toList =[a.eval y]:=by have:=hyv.2;cases hq:a.eval y<;>rw [hq]at this<;>first | rfl | cases this
     have hc:Ai w G [C.any] (a.eval y).cells.toList :=by simp_all [Ai,Ae]
     have hlen:e.toE.cs.length=l.length*T.sz E:=by grind [FF]
     have atx:off<T.sz E:=ace;have hk:i.toNat*T.sz E+off<e.toE.cs.length:=by rw [hlen];have:(i.toNat+1)*T.sz E<=l.length*T.sz E:=mul_le_mul_right _ (by omega);grind
     obtain⟨cur,T',c1,c2,c3⟩:=hR.acP hL hb1 (off:=i.toNat*T.sz E+off) hc (by simp;omega) rfl rfl;have hs:=Ev (P:=P) ht c1 (by grind) c2 (Ai.one hc);have abq:(w.setRow b (cur.toList.take (i.toNat*T.sz E+off)++(a.eval y).cells.toList ++cur.toList.drop (i.toNat*T.sz E+off+(a.eval y).cells.toList.length)).toArray).cell? ⟨b,i.toNat*T.sz E+off,none⟩=some (a.eval y):=by
      have:=setRow_heap w b cur (cur.toList.take (i.toNat*T.sz E+off)++(a.eval y).cells.toList ++cur.toList.drop (i.toNat*T.sz E+off+(a.eval y).cells.toList.length)).toArray T' (0,0) c1;simp only [World.cell?,this];have hkl:(cur.toList.take (i.toNat*T.sz E+off)).length =i.toNat*T.sz E+off:=by grind
      simp_all
     generalize w.setRow b _=w1 at hs c3 abq;have s_:(execOp a.eval o).run P w= .ok .skip w1:=by simp_all [execOp]
     have hr1:er.toE=⟨r,some (F,T.sz F,yy.length),yy.flatMap (T.enc F),true⟩:=by rw [DE.toE_row r4,r3]
     have hrd:Ep r=false:=FP r1;have ajt:r ≠ id:=(by grind);have ajw: ∀ d∈st.toSt.so,d.id ≠ id->d∈(st.toSt.aeu id e.toE.row (e.toE.cs.take (i.toNat*T.sz E+off)++[C.any]++e.toE.cs.drop (i.toNat*T.sz E+off+[C.any].length))).so :=fun d hd' Tg=>mem_map.2 ⟨d,hd',El Tg⟩;have hL2:(st.toSt.aeu id e.toE.row (e.toE.cs.take (i.toNat*T.sz E+off)++[C.any]++e.toE.cs.drop (i.toNat*T.sz E+off+[C.any].length))).K_ id=some ⟨id,e.toE.row,e.toE.cs.take (i.toNat*T.sz E+off)++[C.any]++e.toE.cs.drop (i.toNat*T.sz E+off+[C.any].length),true⟩:=by refine c3.M_ (mem_map.2 ⟨e.toE,mem_map.2 ⟨e,he1,rfl⟩,?_⟩) rfl g1;grind [Em]
     have hLr:(st.toSt.aeu id e.toE.row (e.toE.cs.take (i.toNat*T.sz E+off)++[C.any]++e.toE.cs.drop (i.toNat*T.sz E+off+[C.any].length))).look r=some er.toE:=
      c3.ads (ajw _ (mem_map.2 ⟨er,r2,rfl⟩) (by grind)) (by grind) hrd (by grind)
     have hsl:(e.toE.cs.take (i.toNat*T.sz E+off)++[C.any]++e.toE.cs.drop (i.toNat*T.sz E+off+[C.any].length)).length =e.toE.cs.length:=by simp;omega
     obtain⟨G',q⟩:=c3.agK (p:=TR [r] id) [⟨i.toNat*T.sz E+off,r,F,T.sz F,yy.length,yy.flatMap (T.enc F)⟩] hL2 hb1 (fun ar har=>by
      rcases mem_singleton.1 har with rfl;exact⟨by rw [hLr,hr1];rfl,by grind,fy (by simp),_,abq,hyv.1⟩) (by simp) ((st.acs (TR [r] id)).abe id (.deep E nn (l.set i.toNat (T.bd E z)) none)).toSt (by
      have aam:ah (id,(DX.deep E nn (l.set i.toNat (T.bd E z)) none:DX T))=⟨id,e.toE.row,Jf (e.toE.cs.take (i.toNat*T.sz E+off)++[C.any]++e.toE.cs.drop (i.toNat*T.sz E+off+[C.any].length)) [⟨i.toNat*T.sz E+off,r,F,T.sz F,yy.length,yy.flatMap (T.enc F)⟩],true⟩:=by
       show (⟨id,some (E,T.sz E,(l.set i.toNat (T.bd E z)).length),AC T E nn 0 (l.set i.toNat (T.bd E z)),true⟩:Au)=_;have htl:(e.toE.cs.take (i.toNat*T.sz E+off)).length =i.toNat*T.sz E+off:=by grind
       simp only [Jf,List.foldl_cons,List.foldl_nil,hE,List.length_set];congr 1;rw [<-hcells];apply List.ext_getElem?;intro j;have axl:((Bp T E nn l hh).take (i.toNat*T.sz E+off)).length =i.toNat*T.sz E+off:=by grind
       have hkk:i.toNat*T.sz E+off<(Bp T E nn l hh).length :=by grind
       simp only [List.getElem?_set];by_cases hj:i.toNat*T.sz E+off=j
       ·grind
       ·rw [if_neg hj,if_neg hj,append_assoc];by_cases hjk:j<i.toNat*T.sz E+off
        ·grind
        ·rw [List.getElem?_append_right (by omega),axl,List.getElem?_append_right (by simp;omega),List.getElem?_drop];grind
      have hB:=Vi (ns:=[r]) hw (p:=TR [r] id) (fun n hn=>by rcases mem_singleton.1 hn with rfl;exact Wv (by simp)) n2.ok aam;exact⟨hB.len,hB.tm,hB.ani,hB.gh,fun x hx=>(hB.so x hx).imp (fun q=>q) (by grind),hB.nd,hB.pre⟩)
     exact FZ s_ (by rw [hd];exact⟨_,G',hK,q⟩)
    ·exact Yl.no
   ·exact Yl.no
  ·exact Yl.no
 ·exact Yl.no
end Go.PL
set_option linter.all false
namespace Go.PL
open Go Go.RowKit
variable {T:Bm}
theorem dh {E:Nat} {n n':Int}: ∀ {l:List (T.den E)} {k:Int},n<=k->n'<=k->AC T E n k l=AC T E n' k l
 | [],_,_,_=>rfl
 | x::l,k,h,h'=>by rw [AC,AC,if_neg (by omega),if_neg (by omega),dh (n':=n') (l:=l) (k:=k+1) (by omega) (by omega)]
theorem Yd {E:Nat} {x':T.den E} {n:Int}: ∀ {l:List (T.den E)} {k:Int} {i:Nat},i<l.length->k+i=n->(AC T E n k l).take (i*T.sz E)++(T.aaV E x'++(AC T E n k l).drop (i*T.sz E+T.sz E))=AC T E (n+1) k (l.set i x')
 | [],_,_,h,_=>by simp at h
 | y::l,k,0,h,hk=>by
   have hk:k=n:=by grind
   rw [List.set_cons_zero,AC,AC,if_neg (by omega),if_pos (by omega),Nat.zero_mul,zero_add,List.take_zero,nil_append,List.drop_append_of_le_length (by rw [AS];exact le_refl _),List.drop_eq_nil_of_le (by rw [AS];exact le_refl _),nil_append,dh (n':=n+1) (by omega) (by omega)]
 | y::l,k,i+1,h,hk=>by
   have hk':k<n:=by grind
   have e:(i+1)*T.sz E=T.sz E+i*T.sz E:=by rw [add_mul,one_mul,Nat.add_comm]
   rw [List.set_cons_succ,AC,AC,if_pos hk',if_pos (by omega),e, <-Yd (l:=l) (k:=k+1) (by simpa using h) (by push_cast at hk;omega)];rw [List.take_append,List.drop_append,Ey,List.take_of_length_le (by rw [Ey];omega),List.drop_eq_nil_of_le (by rw [Ey];omega),nil_append];grind
def Ny:C->C
 | .j_ _=> .any
 | c=>c
def RJ (st:Af T):(ks:List Kd)->List (DC T)->Option (DK T.den ks×List Ah)
 | [],[]=>some ((),[])
 | .t_ F::ks,c::cs=>match K7 c with
   | some r=>match DN st r with
     | some ⟨F',l⟩=>match Ya F F' l,RJ st ks cs with
       | some l',some (y,rs)=>some ((l',y),r::rs)
       | _,_=>none
     | none=>none
   | none=>none
 | .int k::ks,c::cs=>match Iq false (.int k) c,RJ st ks cs with
   | some x,some (y,rs)=>some ((x,y),rs)
   | _,_=>none
 | .bool ::ks,c::cs=>match Iq false .bool c,RJ st ks cs with
   | some x,some (y,rs)=>some ((x,y),rs)
   | _,_=>none
 | .str ::ks,c::cs=>match Iq false .str c,RJ st ks cs with
   | some x,some (y,rs)=>some ((x,y),rs)
   | _,_=>none
 | _,_=>none
structure yD (st:Af T) (ks:List Kd) (cs:List (DC T)) (y:DK T.den ks) (rs:List Ah) (b:Nat) (ars:List AR):Prop where
 ids:ars.map (·.r)=rs
 len:cs.length=ks.length
 at_: ∀ x∈ars,st.toSt.look x.r=some x.ent/\b<=x.k/\x.k<b+ks.length/\(Av cs)[x.k - b]? =some (.j_ x.r)
 akj: ∀ pre post:List C,pre.length=b->Jf (pre++((Av cs).map Ny++post)) ars=pre++(BX T ks y++post)
 pure:Am ((Av cs).map Ny)=true
 noi:((Av cs).map Ny).all lZ=true
theorem yD.sc {st:Af T} {ks:List Kd} {cs:List (DC T)} {y:DK T.den ks} {rs:List Ah} {b:Nat} {ars:List AR} (h:yD st ks cs y rs (b+1) ars) (k:Kd) (x:Pa T.den k) (c:DC T) (hk:Pb k=true) (hc:c.toC=Bk T.enc k x):yD st (k::ks) (c::cs) ((x,y):Pa T.den k×DK T.den ks) rs b ars:=by
 have hu:Ny c.toC=Xf T k x:=by rw [hc];cases k<;>first | rfl | cases hk
 have hp:(Xf T k x).pure =true/\lZ (Xf T k x)=true:=by cases k<;>first | exact⟨rfl,rfl⟩ | cases hk
 refine⟨h.ids,by simp [h.len],fun z hz=>?_,fun pre post hl=>?_,?_,?_⟩
 ·obtain⟨a1,a2,a3,a4⟩:=h.at_ z hz;grind [Av]
 ·have:=h.akj (pre++[Xf T k x]) post (by simp [hl]);grind [Av,BX]
 ·simp only [Av,map_cons,Am,and_eq_true];exact⟨by grind,h.pure⟩
 ·simp only [Av,map_cons,all_cons,and_eq_true];exact⟨by grind,h.noi⟩
theorem JK {st:Af T}: ∀ {ks:List Kd} {cs:List (DC T)} {y:DK T.den ks} {rs:List Ah},RJ st ks cs=some (y,rs)-> ∀ b:Nat, ∃ ars,yD st ks cs y rs b ars
 | [],[],y,rs,h,b=>by simp only [RJ,injEq]at h;injection h with h1 h2;subst h1 h2;exact⟨[],rfl,rfl,(by grind),(fun pre post _=>rfl),rfl,rfl⟩
 | [],_::_,_,_,h,_=>by simp [RJ]at h
 | k::_,[],_,_,h,_=>by grind [RJ]
 | .int k::ks,c::cs,y,rs,h,b=>by
   simp only [RJ]at h;split at h
   ·rename_i x y' rs' h1 h2;injection h with h;injection h with e1 e2;subst e1 e2;obtain⟨ars,ha⟩:=JK h2 (b+1);exact⟨ars,ha.sc (.int k) x c rfl ((CK h1).2 rfl)⟩
   ·cases h
 | .bool ::ks,c::cs,y,rs,h,b=>by
   simp only [RJ]at h;split at h
   ·rename_i x y' rs' h1 h2;injection h with h;injection h with e1 e2;subst e1 e2;obtain⟨ars,ha⟩:=JK h2 (b+1);exact⟨ars,ha.sc .bool x c rfl ((CK h1).2 rfl)⟩
   ·cases h
 | .str ::ks,c::cs,y,rs,h,b=>by
   simp only [RJ]at h;split at h
   ·rename_i x y' rs' h1 h2;injection h with h;injection h with e1 e2;subst e1 e2;obtain⟨ars,ha⟩:=JK h2 (b+1);exact⟨ars,ha.sc .str x c rfl ((CK h1).2 rfl)⟩
   ·cases h
 | .t_ F::ks,c::cs,y,rs,h,b=>by
   simp only [RJ]at h;split at h
   ·rename_i r ho;split at h
    ·rename_i F' l hr;split at h
     ·rename_i l' y' rs' h1 h2;injection h with h;injection h with e1 e2;subst e1 e2;obtain⟨e,rfl⟩:=Ks h1;subst e;obtain⟨ars,ha⟩:=JK h2 (b+1);obtain⟨q1,_,d,q2,q3,q4⟩:=BQ hr;have hc:=EB ho;refine⟨⟨b,r,F',T.sz F',l.length,l.flatMap (T.enc F')⟩::ars,by simp [ha.ids],by simp [ha.len],fun z hz=>?_,fun pre post hl=>?_,?_,?_⟩
      ·rcases mem_cons.1 hz with rfl | hz
       ·refine⟨q1,le_refl _,by simp,?_⟩;rw [hc,Av,Nat.sub_self];rfl
       ·obtain⟨a1,a2,a3,a4⟩:=ha.at_ z hz;grind [Av]
      ·have:=ha.akj (pre++[.isl F' (T.sz F') l.length (l.flatMap (T.enc F'))]) post (by simp [hl]);have e1:Jf (pre++((Av (c::cs)).map Ny++post)) (⟨b,r,F',T.sz F',l.length,l.flatMap (T.enc F')⟩::ars)=Jf ((pre++[.isl F' (T.sz F') l.length (l.flatMap (T.enc F'))])++((Av cs).map Ny++post)) ars:=by unfold Jf;simp_all [Av]
       rw [e1,this];simp only [BX,append_assoc,List.singleton_append,cons_append];rfl
      ·simp only [Av,map_cons,Am,and_eq_true];rw [hc];exact⟨rfl,ha.pure⟩
      ·simp only [Av,map_cons,all_cons,and_eq_true];rw [hc];exact⟨rfl,ha.noi⟩
     ·cases h
    ·cases h
   ·cases h
theorem Ye {w:World} {G:AF}: ∀ {cs:List C} {vs:List Value},Ai w G cs vs->Ai w G (cs.map Ny) vs
 | [],[],_=>by simp [Ai]
 | [],_::_,h=>by grind
 | _::_,[],h=>by simp [Ai]at h
 | c::cs,v::vs,h=>by simp only [Ai,map_cons]at h ⊢;refine⟨?_,Ye h.2⟩;cases c<;>first | exact h.1 | (simp only [Ny,Ae];exact h.1.one)
theorem Yf {w:World} {G:AF}: ∀ {cs:List C} {vs:List Value} {k:Nat} {c:C},Ai w G cs vs->cs[k]? =some c-> ∃ v,vs[k]? =some v/\Ae w G c v
 | [],_,_,_,_,h=>by simp at h
 | _::_,[],_,_,h,_=>by simp [Ai]at h
 | d::cs,v::vs,0,c,h,hc=>by simp only [List.getElem?_cons_zero,injEq]at hc;subst hc;simp only [Ai]at h;grind
 | d::cs,v::vs,k+1,c,h,hc=>by simp only [Ai]at h;obtain⟨u,h1,h2⟩:=Yf (k:=k) h.2 (by simpa using hc);exact⟨u,by simpa using h1,h2⟩
def dse (P:Program) (o:Oper) (st:Af T):M (Af T):=match o.op with
 | .store t x y=>match o.dst,st.arg [] x,st.arg [] y,KS P t with
   | none,some (.c (.rp id N i 0)),some (.agg cs),some (_,n)=>match Ki st id with
     | some ⟨E,(nn,l,none)⟩=>match RJ st (T.ks E) cs with
       | some (z,rs)=>Tf (Ep id&&(Nat.beq N (T.sz E)&&(Nat.beq n (T.sz E)&&LE rs))) (.opt (idx l i) fun _=> .opt (n_ (i=nn)) fun _=>
        .ret ((st.acs (TR rs id)).abe id (.deep E (nn+1) (l.set i.toNat (T.bd E z)) none)))
       | none=> .no
     | _=> .no
   | _,_,_,_=> .no
 | _=> .no
theorem Acc {H:Ax T} {P:Program} {I:World->Prop} {st:Af T} (hw:AI H st) {o:Oper}:Yl (dse P o st) (fun a_=>(∃ H',Nx H st H' a_)/\a_.pre=st.pre/\ ∀ K:St->Prop,K a_.toSt->DL P I o st.toSt K):=by
 unfold dse;split
 ·rename_i t x y hop;split
  ·rename_i id N i cs ag n hd hx hy ht;split
   ·rename_i E nn l hdr;split
    ·rename_i z rs hea;refine Yl.Tf fun hg=>Yl.opt fun xx hxx=>Yl.opt fun u hu=>?_;simp only [and_eq_true,beq_eq]at hg;obtain⟨g1,g2,g3,g4⟩:=hg;subst g2 g3;have hin:i=nn:=CJ hu;obtain⟨i0,i1,hxi⟩:=Jo hxx;obtain⟨a1,a2,a3⟩:=HC hw hx;obtain⟨b1,b2,b3⟩:=HC hw hy;obtain⟨hmk,hlr,e,he1,he2,he3⟩:=B9 hdr;have hE:e.toE=⟨id,some (E,T.sz E,l.length),AC T E nn 0 l,true⟩:=by unfold DE.toE;rw [he3,he2];rfl
     obtain⟨ars,ha⟩:=JK hea (i.toNat*T.sz E);have hcl:cs.length=T.sz E:=ha.len;have axt:=Yd (x':=T.bd E z) (n:=nn) (l:=l) (k:=0) (i:=i.toNat) (by omega) (by omega);obtain⟨⟨H1,n1⟩,k2,k3⟩:=M2 hw (TR rs id);obtain⟨H2,n2⟩:=Af.aa8 n1.ok id (x:= .deep E (nn+1) (l.set i.toNat (T.bd E z)) none) trivial;refine Yl.ret ⟨⟨H2,n1.trans n2⟩,k2,fun K hK Fr a w G Q hI hR=>?_⟩;have hL:st.toSt.K_ id=some e.toE:=hR.M_ (mem_map.2 ⟨e,he1,rfl⟩) (by rw [hE]) g1;have U_:=hR.arg rfl a2;rw [a3]at U_;simp only [DV.toV,DC.toC,Ab,Ae,add_zero]at U_;obtain⟨b,hb1,hv⟩:=U_;have hyv:=hR.arg rfl b2;rw [b3]at hyv;simp only [DV.toV,Ab]at hyv;obtain⟨arr,hyv,hcs⟩:=hyv;have hvl:(a.eval y).cells.toList =arr.toList:=by rw [hyv];rfl
     have hlen:e.toE.cs.length=l.length*T.sz E:=by grind [Kj]
     have hle:i.toNat*T.sz E+T.sz E<=e.toE.cs.length:=by rw [hlen];have:(i.toNat+1)*T.sz E<=l.length*T.sz E:=mul_le_mul_right _ (by omega);grind
     have hxl:((Av cs).map Ny).length =T.sz E:=by simp [hcl,AO]
     have hal:arr.toList.length=T.sz E:=by rw [<-hcs.length,AO,hcl]
     have hc:Ai w G ((Av cs).map Ny) (a.eval y).cells.toList :=by grind [Ye]
     obtain⟨cur,T',c1,c2,c3⟩:=hR.acP hL hb1 (off:=i.toNat*T.sz E) hc (by omega) ha.pure ha.noi;have hs:=Ev (P:=P) ht c1 (by grind) c2 (Ai.one hc);rw [hvl]at hs c2 c3;have abq: ∀ j v,arr.toList[j]? =some v->(w.setRow b (cur.toList.take (i.toNat*T.sz E)++arr.toList++cur.toList.drop (i.toNat*T.sz E+arr.toList.length)).toArray).cell? ⟨b,i.toNat*T.sz E+j,none⟩=some v:=by intro j v hj;have:=setRow_heap w b cur (cur.toList.take (i.toNat*T.sz E)++arr.toList++cur.toList.drop (i.toNat*T.sz E+arr.toList.length)).toArray T' (0,0) c1;simp only [World.cell?,this];grind
     generalize w.setRow b _=w1 at hs c3 abq;have s_:(execOp a.eval o).run P w= .ok .skip w1:=by simp_all [execOp]
     have ajw: ∀ d∈st.toSt.so,d.id ≠ id->d∈(st.toSt.aeu id e.toE.row (e.toE.cs.take (i.toNat*T.sz E)++(Av cs).map Ny++e.toE.cs.drop (i.toNat*T.sz E+((Av cs).map Ny).length))).so :=fun d hd' Tg=>mem_map.2 ⟨d,hd',El Tg⟩;have hL2:(st.toSt.aeu id e.toE.row (e.toE.cs.take (i.toNat*T.sz E)++(Av cs).map Ny++e.toE.cs.drop (i.toNat*T.sz E+((Av cs).map Ny).length))).K_ id=some ⟨id,e.toE.row,e.toE.cs.take (i.toNat*T.sz E)++(Av cs).map Ny++e.toE.cs.drop (i.toNat*T.sz E+((Av cs).map Ny).length),true⟩:=by refine c3.M_ (mem_map.2 ⟨e.toE,mem_map.2 ⟨e,he1,rfl⟩,?_⟩) rfl g1;grind [Em]
     have htl:(e.toE.cs.take (i.toNat*T.sz E)).length =i.toNat*T.sz E:=by grind
     have hsl:(e.toE.cs.take (i.toNat*T.sz E)++(Av cs).map Ny++e.toE.cs.drop (i.toNat*T.sz E+((Av cs).map Ny).length)).length =e.toE.cs.length:=by grind
     obtain⟨G',q⟩:=c3.agK (p:=TR rs id) ars hL2 hb1 (fun ar har=>by
      obtain⟨p1,p2,p3,p4⟩:=ha.at_ ar har;obtain⟨hmr,af0⟩:=Bi p1;have hnd:=FP p1;have ajt:ar.r ≠ id:=(by grind);obtain⟨v,v1,v2⟩:=Yf hcs p4;simp only [Ae]at v2;refine⟨c3.ads (by grind) af0 hnd rfl,by grind,fy (by rw [<-ha.ids];grind),v,?_,v2.1⟩;grind) (by rw [ha.ids];exact Gu g4) ((st.acs (TR rs id)).abe id (.deep E (nn+1) (l.set i.toNat (T.bd E z)) none)).toSt (by
      have aam:ah (id,(DX.deep E (nn+1) (l.set i.toNat (T.bd E z)) none:DX T))=⟨id,e.toE.row,Jf (e.toE.cs.take (i.toNat*T.sz E)++(Av cs).map Ny++e.toE.cs.drop (i.toNat*T.sz E+((Av cs).map Ny).length)) ars,true⟩:=by
       show (⟨id,some (E,T.sz E,(l.set i.toNat (T.bd E z)).length),AC T E (nn+1) 0 (l.set i.toNat (T.bd E z)),true⟩:Au)=_;rw [append_assoc,ha.akj _ _ htl,hxl, <-axt];simp only [hE,List.length_set];congr 1;have:T.aaV E (T.bd E z)=BX T (T.ks E) z:=by rw [Bm.aaV,T.aet]
       rw [this]
      have hB:=Vi (ns:=ars.map (·.r)) hw (p:=TR rs id) (fun n hn=>by rw [ha.ids]at hn;exact Wv hn) n2.ok aam;exact⟨hB.len,hB.tm,hB.ani,hB.gh,fun x hx=>(hB.so x hx).imp (fun q=>q) (by grind),hB.nd,hB.pre⟩)
     exact FZ s_ (by rw [hd];exact⟨_,G',hK,q⟩)
    ·exact Yl.no
   ·exact Yl.no
  ·exact Yl.no
 ·exact Yl.no
end Go.PL
set_option linter.all false
namespace Go.PL
open Go Go.RowKit
variable {T:Bm}
def RK (st:Af T):Option Operand->Option (Option Int)
 | none=>some none
 | some x=>match st.arg [] x with
   | some (.c (.k (.int _) i))=>some (some i)
   | _=>none
theorem HH {H:Ax T} {st:Af T} (hw:AI H st) {x:Option Operand} {i:Option Int} (h:RK st x=some i) {F:Fr} {a:Act} {w:World} {G:AF} (hR:R F st.toSt a w G): ∃ k:IntKind,x.map a.eval=i.map (Value.int k):=by
 cases x with
 | none=>simp only [RK,injEq]at h;subst h;simp_all
 | some x=>
   simp only [RK]at h;split at h
   ·rename_i k j hx;injection h with h;subst h;obtain⟨a1,a2,a3⟩:=HC hw hx;have U_:=hR.arg rfl a2;rw [a3]at U_;simp only [DV.toV,DC.toC,Bk,Ab,Ae]at U_;grind
   ·cases h
theorem pT {P:Program} (len cap:Nat) (k1 k2 k3:IntKind) (lo hi mx:Option Int) (hm:mx.isSome=true->hi.isSome=true) (h1:0<=lo.getD 0) (h2:lo.getD 0<=hi.getD len) (h3:hi.getD len<=mx.getD cap) (h4:mx.getD cap<=cap) (w:World):
 (Instr.sliceBounds true len cap (lo.map (Value.int k1)) (hi.map (Value.int k2)) (mx.map (Value.int k3))).run P w= .ok ((lo.getD 0).toNat,(hi.getD len).toNat,(mx.getD cap).toNat) w:=by
 have e1: ∀ code,mx.isSome=true->(Instr.sliceBound (.int k3 (mx.getD cap)) cap code).run P w= .ok (mx.getD cap).toNat w:=(by grind [Tc]);have e2: ∀ code,(Instr.sliceBound (.int k2 (hi.getD len)) (mx.getD cap).toNat code).run P w= .ok (hi.getD len).toNat w:=(by grind [Tc]);have e3: ∀ code,(Instr.sliceBound (.int k1 (lo.getD 0)) (hi.getD len).toNat code).run P w= .ok (lo.getD 0).toNat w:=(by grind [Tc]);cases lo<;>cases hi<;>cases mx<;>simp only [getD_some,getD_none,Option.isSome_some,Option.isSome_none,Bool.false_eq_true,forall_const,imp_self,toNat_natCast]at hm e1 e2 e3 ⊢ <;>simp [Instr.sliceBounds,e1,e2,e3]
 all_goals first | rfl | (exact absurd hm (by simp))
def yE (P:Program) (o:Oper) (md:Bool) (st:Af T):M (Af T):=match o.op with
 | .slice t x lo hi mx=>match o.dst,st.arg [] x,Dt P t with
   | some d,some (.c (.c (.j_ id))),some (_,n)=>match DN st id,RK st lo,RK st hi,RK st mx with
     | some ⟨E,l⟩,some lo',some hi',some mx'=>Tf (Nat.beq n (T.sz E)&&(mx'.isNone||hi'.isSome)) (match md with
       | true=>Tf mx'.isNone (.opt (n_ (0<=lo'.getD 0/\lo'.getD 0<=hi'.getD (l.length:Nat)/\hi'.getD (l.length:Nat)<=(l.length:Nat)/\0<l.length)) fun _=> .ret (st.put (some d) (.c (.bs id E (lo'.getD 0) (hi'.getD (l.length:Nat) - lo'.getD 0)))))
       | false=> .opt (n_ (0<=lo'.getD 0/\lo'.getD 0<=hi'.getD (l.length:Nat)/\hi'.getD (l.length:Nat)<=mx'.getD (l.length:Nat)/\mx'.getD (l.length:Nat)<=(l.length:Nat))) fun _=> .ret (st.put (some d) (.c (.c .any))))
     | _,_,_,_=> .no
   | some d,some (.c (.bs id E0 o0 n0)),some (_,n)=>match DN st id,RK st lo,RK st hi,RK st mx with
     | some ⟨E,l⟩,some lo',some hi',some none=>Tf (Nat.beq n (T.sz E)&&Nat.beq E0 E) (.opt (n_ (o0=0/\0<=lo'.getD 0/\lo'.getD 0<=hi'.getD (n0.toNat:Nat)/\hi'.getD (n0.toNat:Nat)<=(l.length:Nat)/\0<l.length)) fun _=> .ret (st.put (some d) (.c (.bs id E (lo'.getD 0) (hi'.getD (n0.toNat:Nat) - lo'.getD 0)))))
     | _,_,_,_=> .no
   | _,_,_=> .no
 | _=> .no
theorem R.acH {F:Fr} {st:Af T} {a:Act} {w:World} {G:AF} (hR:R F st.toSt a w G) {id:Ah} {E:Nat} {l:List (T.den E)} (h:DN st id=some ⟨E,l⟩): ∃ v,G.own id=some v/\((∃ p,v= .slice p 0 0/\l.length=0)\/
 ∃ b cap cur,v= .slice (some ⟨b,0,none⟩) l.length cap/\G.o_ id=some b/\w.heap[b]? =some (.cells cur E (0,0))/\l.length<=cap/\cap<=maxLen/\cur.size=cap*T.sz E/\Al w G (l.flatMap (T.enc E)) b 0):=by
 obtain⟨h1,_⟩:=BQ h;obtain⟨hm,_⟩:=Bi h1;have hE:=hR.store _ hm;unfold Ba at hE;obtain⟨_,v,e1,e2⟩:=hE;refine⟨v,e1,?_⟩;rcases e2 with ⟨p,q1,q2,_⟩ | ⟨b,cap,cur,q1,q2,q3,q4,q5,q6,q7⟩
 ·grind
 ·exact .inr ⟨b,cap,cur,q1,q2,q3,q4,q5,q6,q7⟩
theorem pU {H:Ax T} {P:Program} {I:World->Prop} {st:Af T} (hw:AI H st) {o:Oper} {md:Bool}:Yl (yE P o md st) (fun a_=>(∃ H',Nx H st H' a_)/\a_.pre=st.pre/\Yld P I o st.toSt a_.toSt):=by
 unfold yE;split
 ·rename_i t x lo hi mx hop;split
  ·rename_i d id e n hd hx ht;split
   ·rename_i E l lo' hi' mx' hr q1 q2 q3;refine Yl.Tf fun hg=>?_;simp only [and_eq_true,beq_eq,or_eq_true]at hg;obtain⟨g1,g2⟩:=hg;obtain⟨a1,a2,a3⟩:=HC hw hx;obtain⟨hu,inf,hi1,hsz⟩:=DQ ht;have hm:mx'.isSome=true->hi'.isSome=true:=fun q=>by
     rcases g2 with g2 | g2
     all_goals simp_all
    have run: ∀ {F:Fr} {a:Act} {w:World} {G:AF},R F st.toSt a w G-> ∀ len cap (ad:Option Addr),a.eval x= .slice ad len cap->0<=lo'.getD 0->lo'.getD 0<=hi'.getD len->hi'.getD len<=mx'.getD cap->mx'.getD cap<=cap-> ∀ w',(execOp a.eval o).run P w'= .ok (.value (.slice (if(mx'.getD cap).toNat =(lo'.getD 0).toNat then ad else ad.map (·.add ((lo'.getD 0).toNat *n))) ((hi'.getD len).toNat - (lo'.getD 0).toNat) ((mx'.getD cap).toNat - (lo'.getD 0).toNat))) w':=by intro F a w G hR len cap ad hv b1 b2 b3 b4 w';obtain⟨k1,e1⟩:=HH hw q1 hR;obtain⟨k2,e2⟩:=HH hw q2 hR;obtain⟨k3,e3⟩:=HH hw q3 hR;have hs:=pT (P:=P) len cap k1 k2 k3 lo' hi' mx' hm b1 b2 b3 b4 w';simp [execOp,hop,e1,e2,e3,hv,Instr.sliceAt,Instr.slice,Sem.run_bind,run_underlying hu,hs,sizeOf,typeInfo,program,Sem.run,hi1,hsz]
    split
    ·refine Yl.Tf fun hmx=>Yl.opt fun u hn=>Yl.ret ?_;have hn:=CJ hn;have hmx:mx'=none:=by simp_all
     subst hmx;obtain⟨H1,n1⟩:=Af.aai hw (some d) (v:= .c (.bs id E (lo'.getD 0) (hi'.getD (l.length:Nat) - lo'.getD 0))) (by grind [DV.ok,DC.ok]);refine⟨⟨H1,n1⟩,AU _ _ _,fun Fr a w G hI hR=>?_⟩;have U_:=hR.arg rfl a2;rw [a3]at U_;simp only [DV.toV,DC.toC,Ab,Ae]at U_;obtain⟨v,v1,v2⟩:=hR.acH hr;rw [U_.1]at v1;injection v1 with v1;rcases v2 with ⟨p,_,v2⟩ | ⟨b,cap,cur,rfl,v3,v4,v5,v6,v7,v8⟩
     ·omega
     ·have hs:=run hR l.length cap _ v1 hn.1 hn.2.1 (by simp only [getD_none];omega) (by simp);refine⟨_,G,fun w' _=>hs w',?_⟩;rw [hd,Af.k_];refine hR.put ?_;simp only [DV.toV,DC.toC,Ab,Ae];refine⟨b,l.length,cap,(if cap=(lo'.getD 0).toNat then 0 else(lo'.getD 0).toNat *n),cap - (lo'.getD 0).toNat,by grind,?_,?_,by omega,fun hlt=>?_⟩
      ·simp only [getD_none,toNat_natCast];grind [Addr.add_mid]
      all_goals grind
    ·refine Yl.opt fun u hn=>Yl.ret ?_;have hn:=CJ hn;obtain⟨H1,n1⟩:=Af.aai hw (some d) (v:= .c (.c .any)) (by simp only [DV.ok,DC.ok]);refine⟨⟨H1,n1⟩,AU _ _ _,fun Fr a w G hI hR=>?_⟩;have U_:=hR.arg rfl a2;rw [a3]at U_;simp only [DV.toV,DC.toC,Ab,Ae]at U_;obtain⟨v,v1,v2⟩:=hR.acH hr;rw [U_.1]at v1;injection v1 with v1;have hsl: ∃ ad cap,a.eval x= .slice ad l.length cap/\l.length<=cap:=by grind
     obtain⟨ad,cap,hsl,hlc⟩:=hsl;have hs:=run hR l.length cap ad hsl hn.1 hn.2.1 (by
      cases mx'<;>grind) (by
      cases mx'<;>grind)
     refine⟨_,G,fun w' _=>hs w',?_⟩;rw [hd,Af.k_];refine hR.put ?_;simp only [DV.toV,DC.toC,Ab,Ae];rfl
   ·exact Yl.no
  ·rename_i d id E0 o0 n0 e n hd hx ht;split
   ·rename_i E l lo' hi' hr q1 q2 q3;refine Yl.Tf fun hg=>Yl.opt fun u hn=>Yl.ret ?_;simp only [and_eq_true,beq_eq]at hg;obtain⟨g1,g2⟩:=hg;subst g2;have hn:=CJ hn;obtain⟨a1,a2,a3⟩:=HC hw hx;simp only [DV.ok,DC.ok]at a1;obtain⟨hu,inf,hi1,hsz⟩:=DQ ht;obtain⟨H1,n1⟩:=Af.aai hw (some d) (v:= .c (.bs id E0 (lo'.getD 0) (hi'.getD (n0.toNat:Nat) - lo'.getD 0))) (by grind [DV.ok,DC.ok]);refine⟨⟨H1,n1⟩,AU _ _ _,fun Fr a w G hI hR=>?_⟩;have U_:=hR.arg rfl a2;rw [a3]at U_;simp only [DV.toV,DC.toC,Ab,Ae]at U_;obtain⟨b1,ag1,ahV,o1,abN,x1,x2,x3,x4,x5⟩:=U_;obtain⟨v,v1,v2⟩:=hR.acH hr;rw [x1]at v1;injection v1 with v1;rcases v2 with ⟨p,_,v2⟩ | ⟨b,cap,cur,q,v3,v4,v5,v6,v7,v8⟩
    ·omega
    ·rw [q]at v1;injection v1 with z1 z2 z3;injection z1 with z1;injection z1 with z1;subst z1 z2 z3;have ho1:o1=0:=by grind
     subst ho1;have hc1:abN=ahV:=by grind
     subst hc1;obtain⟨k1,e1⟩:=HH hw q1 hR;obtain⟨k2,e2⟩:=HH hw q2 hR;obtain⟨k3,e3⟩:=HH hw q3 hR;have hs:=fun w'=>pT (P:=P) n0.toNat abN k1 k2 k3 lo' hi' none (by simp) hn.2.1 hn.2.2.1 (by simp only [getD_none];omega) (by simp) w';refine⟨.slice (if abN=(lo'.getD 0).toNat then some ⟨b1,0,none⟩else(some (⟨b1,0,none⟩:Addr)).map (·.add ((lo'.getD 0).toNat *n))) ((hi'.getD (n0.toNat:Nat)).toNat - (lo'.getD 0).toNat) (abN - (lo'.getD 0).toNat),G,fun w' _=>?_,?_⟩
     ·have hsw:=hs w';simp only [getD_none,toNat_natCast,Option.map_none]at hsw e3;simp [execOp,hop,e1,e2,e3,x2,Instr.sliceAt,Instr.slice,Sem.run_bind,run_underlying hu,hsw,sizeOf,typeInfo,program,Sem.run,hi1,hsz]
     ·rw [hd,Af.k_];refine hR.put ?_;simp only [DV.toV,DC.toC,Ab,Ae];refine⟨b1,l.length,abN,(if abN=(lo'.getD 0).toNat then 0 else(lo'.getD 0).toNat *n),abN - (lo'.getD 0).toNat,x1,?_,?_,by omega,fun hlt=>?_⟩
      ·grind [Addr.add_mid]
      all_goals grind
   ·exact Yl.no
  ·exact Yl.no
 ·exact Yl.no
end Go.PL
set_option linter.all false
namespace Go.PL
open Go Go.RowKit
variable {T:Bm}
theorem Yg {α:Type} {f:α->List C} {n:Nat} (hf: ∀ x,(f x).length =n) (l:List α):(l.flatMap f).length =l.length*n:=BO hf l
theorem R.afR {F:Fr} {st:Af T} {H:Ax T} {a:Act} {w:World} {G:AF} (hR:R F st.toSt a w G) (hw:AI H st) {id:Ah} {E:Nat} {l m:List (T.den E)} (h:DN st id=some ⟨E,l⟩) {b:Nat} (hb:G.o_ id=some b) {off:Nat} {xs:List C} {vs:List Value} (hx:Ai w G xs vs) (hp:Am xs=true) (hml:m.length=l.length)
 (hm:(l.flatMap (T.enc E)).take off++xs++(l.flatMap (T.enc E)).drop (off+xs.length)=m.flatMap (T.enc E)) (ace:off+xs.length<=l.length*T.sz E):
 ∃ cur T',w.heap[b]? =some (.cells cur T' (0,0))/\off+vs.length<=cur.size/\R F (st.abe id (.row E m)).toSt a (w.setRow b (cur.toList.take off++vs++cur.toList.drop (off+vs.length)).toArray) G:=by
 obtain⟨h1,_,e,e1,e2,e3⟩:=BQ h;obtain⟨cur,T',c1,c2,c3⟩:=hR.stored h1 hb (off:=off) hx (by grind [Yg,AS]);refine⟨cur,T',c1,c2,?_⟩;have:=Af.aep hw e1 e2 (x:= .row E m) (cs:=m.flatMap (T.enc E)) (q:=Am xs) (by
  rw [DE.toE_row e3,e2,hp];show (⟨id,some (E,T.sz E,l.length),m.flatMap (T.enc E),true&&true⟩:Au)=⟨id,some (E,T.sz E,m.length),m.flatMap (T.enc E),true⟩;rw [hml];rfl)
 grind
def Acd (P:Program) (o:Oper) (st:Af T):M (Af T):=match o.op with
 | .call c=>match c.callee,c.args.toList,c.argTypes.toList with
   | .builtin .clear,[x],[t]=>match st.arg [] x,Dt P t with
     | some (.c (.bs id E0 o0 n0)),some (e,n)=>match DN st id,Qr P e with
       | some ⟨E,l⟩,some z=>match tp false E z with
         | some z0=>Tf (Nat.beq n (T.sz E)&&(Nat.beq z.length n&&(Nat.beq E0 E&&Nat.blt 0 n))) (.opt (n_ (o0+n0<=(l.length:Nat)/\0<l.length)) fun _=>
          .ret ((st.abe id (.row E (l.take o0.toNat++(List.replicate n0.toNat z0++l.drop (o0.toNat+n0.toNat))))).put o.dst (.tup [])))
         | none=> .no
       | _,_=> .no
     | _,_=> .no
   | _,_,_=> .no
 | _=> .no
theorem QE {α:Type} {f:α->List C} (z:α): ∀ n:Nat,(List.replicate n z).flatMap f=B7 (f z) n
 | 0=>by simp [B7]
 | n+1=>by rw [List.replicate_succ,flatMap_cons,QE z n,UM]
theorem yF {H:Ax T} {P:Program} {I:World->Prop} {st:Af T} (hw:AI H st) {o:Oper}:Yl (Acd P o st) (fun a_=>(∃ H',Nx H st H' a_)/\a_.pre=st.pre/\ ∀ K:St->Prop,K a_.toSt->DL P I o st.toSt K):=by
 unfold Acd;split
 ·rename_i c hop;split
  ·rename_i x t adK abQ akD;split
   ·rename_i id E0 o0 n0 e n hx ht;split
    ·rename_i E l z hr hz;split
     ·rename_i z0 hz0;refine Yl.Tf fun hg=>Yl.opt fun u hn=>Yl.ret ?_;simp only [and_eq_true,beq_eq,blt_eq]at hg;obtain⟨g1,g2,g3,g4⟩:=hg;subst g1 g3;have hn:=CJ hn;obtain⟨a1,a2,a3⟩:=HC hw hx;simp only [DV.ok,DC.ok]at a1;obtain⟨hu,inf,hi1,hsz⟩:=DQ ht;obtain⟨z1,z2⟩:=Ix hz;obtain⟨aEu,zv,hi2,hzv,hzc⟩:=Hr z1;rw [hi1]at hi2;injection hi2 with hi2;subst hi2;have hzE:Av z=T.enc E0 z0:=(Ir hz0).2 rfl;obtain⟨H1,n1⟩:=Af.aa8 hw id (x:= .row E0 (l.take o0.toNat++(List.replicate n0.toNat z0++l.drop (o0.toNat+n0.toNat)))) trivial;obtain⟨H2,n2⟩:=Af.H_ n1 o.dst (v:= .tup []) (by simp [DV.ok,CZ]);refine⟨⟨H2,n2⟩,by rw [AU];rfl,fun K hK Fr a w G Q hI hR=>?_⟩;have U_:=hR.arg rfl a2;rw [a3]at U_;simp only [DV.toV,DC.toC,Ab,Ae]at U_;obtain⟨b1,ag1,ahV,o1,abN,x1,x2,x3,x4,x5⟩:=U_;obtain⟨v,v1,v2⟩:=hR.acH hr;rw [x1]at v1;injection v1 with v1;rcases v2 with ⟨p,_,v2⟩ | ⟨b,cap,cur,q,v3,v4,v5,v6,v7,v8⟩
      ·omega
      rw [q]at v1;injection v1 with y1 y2 y3;injection y1 with y1;injection y1 with y1;subst y1 y2 y3;have hzz:Ai w G (B7 (T.enc E0 z0) n0.toNat) (Builtin.zeroCells zv.cells n0.toNat).toList :=by have hzl:=FX (w:=w) (G:=G) hzc;rw [hzE]at hzl;exact L5 hzl (by rw [AS];exact g4) n0.toNat
      have hlen:(B7 (T.enc E0 z0) n0.toNat).length =n0.toNat*T.sz E0:=by rw [<-QE,Yg (fun y=>AS E0 y),List.length_replicate]
      have hle:o0.toNat*T.sz E0+n0.toNat*T.sz E0<=l.length*T.sz E0:=by rw [<-add_mul];exact mul_le_mul_right _ (by omega)
      obtain⟨ac8,T',c1,c2,c3⟩:=R.afR (m:=l.take o0.toNat++(List.replicate n0.toNat z0++l.drop (o0.toNat+n0.toNat))) hR hw hr v3 (off:=o0.toNat*T.sz E0) hzz (UE (by rw [<-hzE];have:=Dr (T:=T) (.s E0) z0;grind [EE,V.pure]) _) (by simp;omega) (by
       rw [hlen,flatMap_append,flatMap_append,QE, <-Hx (fun y=>AS E0 y), <-JD (fun y=>AS E0 y),append_assoc,add_mul]) (by grind)
      have ea:c.args= #[x]:=by grind
      have et:c.argTypes= #[t]:=by grind
      have hzr:(zeroValue e).run P w= .ok zv w:=by simp_all [zeroValue,typeInfo]
      have acy:=Ai.one hzz;by_cases h0:n0.toNat=0
      ·have am5:(Builtin.zeroCells zv.cells n0.toNat).toList =[]:=by rw [h0];simp [Builtin.zeroCells]
       have s_:(execOp a.eval o).run P w= .ok (.value (.tuple #[])) w:=by simp_all [execOp,resolve,invoke,builtin,Builtin.clear_,run_underlying]
       rw [am5]at c3;have apu:w.setRow b1 (ac8.toList.take (o0.toNat*T.sz E0)++([]:List Value)++ac8.toList.drop (o0.toNat*T.sz E0+([]:List Value).length)).toArray =w:=by simp only [append_nil,List.length_nil,add_zero,List.take_append_drop,Array.toArray_toList];exact setRow_self w b1 ac8 T' (0,0) c1
       rw [apu]at c3;exact AK s_ ⟨_,G,hK,by rw [Af.k_];exact c3.put (by simp only [DV.toV,Be,Ab,As];grind)⟩
      ·have ho1:o1=o0.toNat*T.sz E0:=x5 (by omega);have hst:=run_storeCells_at P b1 (o0.toNat*T.sz E0) T' (Builtin.zeroCells zv.cells n0.toNat).toList 0 ac8 w c1 (by grind) acy;simp only [add_zero]at hst;generalize hw1:w.setRow b1 _=w1 at hst c3;have s_:(execOp a.eval o).run P w= .ok (.value (.tuple #[])) w1:=by have h0':n0.toNat ≠ 0:=h0;obtain⟨k,hk⟩:=Nat.exists_eq_succ_of_ne_zero h0';rw [hk]at hst;simp [execOp,hop,resolve,adK,ea,et,invoke,builtin,Builtin.clear_,Sem.run_bind,run_underlying hu,x2,hk,hzr,ho1,hst]
       exact AK s_ ⟨_,G,hK,by rw [Af.k_];exact c3.put (by simp only [DV.toV,Be,Ab,As];grind)⟩
     ·exact Yl.no
    ·exact Yl.no
   ·exact Yl.no
  ·exact Yl.no
 ·exact Yl.no
def Ace (P:Program) (o:Oper) (st:Af T):M (Af T):=match o.op with
 | .call c=>match o.dst,c.callee,c.args.toList,c.argTypes.toList with
   | some d, .builtin .append,[x,y],[t,t']=>match st.arg [] x,st.arg [] y,Dt P t with
     | some (.c (.bs id E0 o0 i)),some (.c (.bs id2 E2 j m)),some (e,n)=>match DN st id with
       | some ⟨E,l⟩=>Tf ((Bc id2 id&&(Nat.beq t t'&&Nat.beq e E))&&(Nat.beq n (T.sz E)&&(Nat.beq E0 E&&Nat.beq E2 E))) (.opt (n_ (o0=0/\i+m<=(l.length:Nat)/\j+m<=(l.length:Nat)/\0<l.length)) fun _=>
        .ret ((st.abe id (.row E (l.take i.toNat++((l.drop j.toNat).take m.toNat++l.drop (i.toNat+m.toNat))))).put (some d) (.c (.bs id E 0 (i+m)))))
       | none=> .no
     | _,_,_=> .no
   | _,_,_,_=> .no
 | _=> .no
theorem yG {H:Ax T} {P:Program} {I:World->Prop} {st:Af T} (hw:AI H st) {o:Oper}:Yl (Ace P o st) (fun a_=>(∃ H',Nx H st H' a_)/\a_.pre=st.pre/\ ∀ K:St->Prop,K a_.toSt->DL P I o st.toSt K):=by
 unfold Ace;split
 ·rename_i c hop;split
  ·rename_i d x y t t' hd adK abQ akD;split
   ·rename_i id E0 o0 i id2 E2 j m e n hx hy ht;split
    ·rename_i E l hr;refine Yl.Tf fun hg=>Yl.opt fun u hn=>Yl.ret ?_;simp only [and_eq_true,beq_eq]at hg;obtain⟨⟨g0,gt,ge⟩,g1,g2,g3⟩:=hg;have g0:=(AP.1 g0).symm;subst g0 gt g1 g2 g3 ge;have hn:=CJ hn;obtain⟨a1,a2,a3⟩:=HC hw hx;obtain⟨b1,b2,b3⟩:=HC hw hy;simp only [DV.ok,DC.ok]at a1 b1;obtain⟨hu,inf,hi1,hsz⟩:=DQ ht;obtain⟨H1,n1⟩:=Af.aa8 hw id (x:= .row e (l.take i.toNat++((l.drop j.toNat).take m.toNat++l.drop (i.toNat+m.toNat)))) trivial;obtain⟨H2,n2⟩:=Af.H_ n1 (some d) (v:= .c (.bs id e 0 (i+m))) (by grind [DV.ok,DC.ok]);refine⟨⟨H2,n2⟩,by rw [AU];rfl,fun K hK Fr a w G Q hI hR=>?_⟩;have U_:=hR.arg rfl a2;rw [a3]at U_;simp only [DV.toV,DC.toC,Ab,Ae]at U_;obtain⟨c1,ag1,ahV,o1,abN,x1,x2,x3,x4,x5⟩:=U_;have hyv:=hR.arg rfl b2;rw [b3]at hyv;simp only [DV.toV,DC.toC,Ab,Ae]at hyv;obtain⟨c1',aAI,aBB,o2,akK,y1,y2,y3,y4,y5⟩:=hyv;rw [x1]at y1;injection y1 with y1;injection y1 with w1 w2 w3;injection w1 with w1;injection w1 with w1;subst w1 w2 w3;obtain⟨v,v1,v2⟩:=hR.acH hr;rw [x1]at v1;injection v1 with v1;rcases v2 with ⟨p,_,v2⟩ | ⟨b,cap,cur,q,v3,v4,v5,v6,v7,v8⟩
     ·omega
     rw [q]at v1;injection v1 with k1 k2 k3;injection k1 with k1;injection k1 with k1;subst k1 k2 k3;have ho1:o1=0:=by grind
     have hc1:abN=ahV:=by grind
     subst ho1 hc1;obtain⟨us,u1,u2⟩:=v8.list;have hul:us.length=l.length*T.sz e:=by rw [<-u1.length,Yg (fun y=>AS e y)]
     have hmv:Ai w G (((l.drop j.toNat).take m.toNat).flatMap (T.enc e)) ((us.drop (j.toNat*T.sz e)).take (m.toNat*T.sz e)):=by rw [<-Hx (fun y=>AS e y), <-JD (fun y=>AS e y)];exact(u1.drop _).take _
     have hjm:j.toNat*T.sz e+m.toNat*T.sz e<=l.length*T.sz e:=by rw [<-add_mul];exact mul_le_mul_right _ (by omega)
     have him:i.toNat*T.sz e+m.toNat*T.sz e<=l.length*T.sz e:=by rw [<-add_mul];exact mul_le_mul_right _ (by omega)
     have hnl:((us.drop (j.toNat*T.sz e)).take (m.toNat*T.sz e)).length =m.toNat*T.sz e:=by rw [List.length_take,List.length_drop];omega
     have hxl:(((l.drop j.toNat).take m.toNat).flatMap (T.enc e)).length =m.toNat*T.sz e:=by rw [hmv.length,hnl]
     have aii:Am (((l.drop j.toNat).take m.toNat).flatMap (T.enc e))=true:=AV _ (fun y=>by have:=Dr (T:=T) (.s e) y;simpa only [EE,V.pure] using this) _;obtain⟨ac8,T',s1,s2,s3⟩:=R.afR (m:=l.take i.toNat++((l.drop j.toNat).take m.toNat++l.drop (i.toNat+m.toNat))) hR hw hr v3 (off:=i.toNat*T.sz e) hmv aii (by simp;omega) (by
      rw [hxl,flatMap_append,flatMap_append, <-Hx (fun y=>AS e y) l i.toNat, <-JD (fun y=>AS e y) l (i.toNat+m.toNat),append_assoc,add_mul]) (by grind)
     rw [v4]at s1;injection s1 with s1;injection s1 with s1 s1' _;subst s1 s1';have aqG: ∀ jj u',((us.drop (j.toNat*T.sz e)).take (m.toNat*T.sz e))[jj]? =some u'->w.cell? ((⟨c1,o2,none⟩:Addr).add jj)=some u':=by
      intro jj u' hj;have hlt:jj<m.toNat*T.sz e:=by grind
      have hm0:0<m.toNat:=by grind
      have ho2:o2=j.toNat*T.sz e:=y5 (by omega);rw [List.getElem?_take,if_pos hlt,List.getElem?_drop]at hj;have:=u2 _ _ hj;simp_all [Addr.add_mid]
     have apv:=run_append_room (P:=P) w t o.type e inf hu hi1 c1 i.toNat abN cur v4 ⟨c1,o2,none⟩ m.toNat akK ((us.drop (j.toNat*T.sz e)).take (m.toNat*T.sz e)) (by grind) aqG (Ai.one hmv) (by omega) (by grind);rw [hsz]at apv;have ea:c.args= #[x,y]:=by grind
     have et:c.argTypes= #[t,t]:=by grind
     generalize w.setRow c1 _=w1 at apv s3;have s_:(execOp a.eval o).run P w= .ok (.value (.slice (some ⟨c1,0,none⟩) (i.toNat+m.toNat) abN)) w1:=by simp_all [execOp,resolve,invoke,builtin]
     refine AK s_ ⟨_,G,hK,?_⟩;rw [hd,Af.k_];refine s3.put ?_;simp only [DV.toV,DC.toC,Ab,Ae];exact⟨c1,l.length,abN,0,abN,x1,by rw [show (i+m).toNat =i.toNat+m.toNat by omega],by omega,by simp,fun _=>by simp⟩
    ·exact Yl.no
   ·exact Yl.no
  ·exact Yl.no
 ·exact Yl.no
end Go.PL
