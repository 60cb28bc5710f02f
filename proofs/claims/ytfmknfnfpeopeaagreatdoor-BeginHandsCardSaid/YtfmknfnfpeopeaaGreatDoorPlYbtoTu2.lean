/- The pure logic: PlYb, PlYc, PlYd, PlYe, PlYf, PlYg, Tj, Tk, Tl, Tm, Tn, To, Tt, Tu, Tu2. -/
import Derived.Test.YtfmknfnfpeopeaaGreatDoorPlZtoPlYa
import Derived.OrdersHeld
set_option linter.all false
namespace Go.PL
open Go Go.RowKit
section
variable {F:Fr} {st:St} {a:Act} {w w':World} {G Gc:Ay}
def Hw (F:Fr) (G Gc:Ay) (ns ids:List Ah):Ay where
 blk:=fun i=>match Ik ns ids i with | some a=>Gc.blk a | none=>G.blk i
 own:=fun i=>match Ik ns ids i with | some a=>Gc.own a | none=>G.own i
 wr:=fun x=>F.av x∨ ∃ i,(match Ik ns ids i with | some a=>Gc.blk a | none=>G.blk i)=some x
theorem R.adoptX (h:R F st a w G) (hb:Below w.heap.size w w') {outs:List OE} {ids ns:List Ah} {av:Nat→Prop} (hav: ∀ b,G.wr b→av b) (hids:HH outs ids=true) (hnd:ids.Nodup) (hns:HH outs ns=true) (hnn:ns.Nodup)
 (hE: ∀ e∈Cr outs ids,AX w' Gc e∧Bi w' Gc e∧Ao e.cs=true) (hinj: ∀ i j b,Gc.blk i=some b→Gc.blk j=some b→i=j) (hfr: ∀ i b,Gc.blk i=some b→w.heap.size≤b∧b<w'.heap.size) (hwr: ∀ b,Gc.wr b↔av b∨ ∃ i,Gc.blk i=some b):
 R F (st.killP (Iq ns) (Cr outs ns++(st.so.filter fun e=> !(Iq ns e.id)).map (As.killP (Iq ns)))) a w' (Hw F G Gc ns ids)∧B3 Gc (Hw F G Gc ns ids) w' w'∧
   ∀ (j:Nat) (i n:Ah),ids[j]? =some i→ns[j]? =some n→(Hw F G Gc ns ids).own n=Gc.own i:=by
 obtain⟨l1,m1,d1⟩:=GT hids
 obtain⟨l2,m2,d2⟩:=GT hns
 have hnone: ∀ i,Iq ns i=false→Ik ns ids i=none:=fun i hi=>cm (by omega) hi
 have hin: ∀ (j:Nat) (i n:Ah),ids[j]? =some i→ns[j]? =some n→Ik ns ids n=some i∧ ∀ k,Ik ns ids (BH k n)=some (BH k i):=fun j i n q1 q2=>gW hnn m2 q2 q1
 have sub: ∀ b,(Hw F G Gc ns ids).wr b→Gc.wr b:=fun b hw=>by
  rw [hwr]
  simp only [Hw]at hw
  rcases hw with q | ⟨i,q⟩
  ·exact .inl (hav b ((h.wr b).2 (.inl q)))
  ·split at q
   ·exact .inr ⟨_,q⟩
   ·exact .inl (hav b ((h.wr b).2 (.inr ⟨i,q⟩)))
 have hk:B3 Gc (Hw F G Gc ns ids) w' w':=B3.sub fun b _ hw=>sub b hw
 have t:Turn F (Iq ns) (fun _=>false) G (Hw F G Gc ns ids) w w':={
  agree:=fun i hi=>by simp only [Hw,hnone i hi,and_self]
  same:=fun i b _ hib=>hb.block b (h.lt i b hib)
  keeps:=⟨hb.size,fun b hb' _=>hb.block b hb',fun b hb' hw=>by
   simp only [Hw]at hw
   rw [h.wr]
   rcases hw with q | ⟨i,q⟩
   ·exact .inl q
   ·split at q
    ·have:=hfr _ _ q;omega
    ·exact .inr ⟨i,q⟩,fun i b q1 _=>BX.same (hb.block b (h.lt i b q1))⟩
  outer:=Dr hb
  ext:=fun b hb' _=>hb.block b (Nat.lt_of_lt_of_le hb' h.hsize)
  wr:=fun b=>Iff.rfl
  inj:=fun i j b q1 q2=>by
   simp only [Hw]at q1 q2
   split at q1<;>split at q2
   ·rename_i _ x h1 _ y h2
    have:=hinj _ _ _ q1 q2
    subst this
    exact eC hnn hnd m1 h1 h2
   ·have a1:=hfr _ _ q1;have a2:=h.lt _ _ q2;omega
   ·have a1:=hfr _ _ q2;have a2:=h.lt _ _ q1;omega
   ·exact h.inj _ _ _ q1 q2
  lt:=fun i b q=>by
   simp only [Hw]at q
   split at q
   ·exact(hfr _ _ q).2
   ·exact Nat.lt_of_lt_of_le (h.lt _ _ q) hb.size
  new:=fun i b q=>by
   simp only [Hw]at q
   split at q
   ·exact .inl (Nat.le_trans h.hsize (hfr _ _ q).1)
   ·exact h.new _ _ q}
 have hown: ∀ (j:Nat) (i n:Ah),ids[j]? =some i→ns[j]? =some n→(Hw F G Gc ns ids).own n=Gc.own i:=fun j i n q1 q2=>by simp only [Hw,(hin j i n q1 q2).1]
 have hblk: ∀ (j:Nat) (i n:Ah),ids[j]? =some i→ns[j]? =some n→(Hw F G Gc ns ids).blk n=Gc.blk i:=fun j i n q1 q2=>by simp only [Hw,(hin j i n q1 q2).1]
 have new: ∀ e∈Cr outs ns,AX w' (Hw F G Gc ns ids) e∧Bi w' (Hw F G Gc ns ids) e∧Ao e.cs=true:=by
  intro e he
  obtain⟨j,o,n,q1,q2,rfl⟩:=Nt he
  have hj:j<ids.length:=by
   have:=(List.getElem?_eq_some_iff.1 q1).1;omega
  obtain⟨i,q3⟩: ∃ i,ids[j]? =some i:=⟨_,List.getElem?_eq_getElem hj⟩
  obtain⟨e1,e2,e3⟩:=hE _ (Rr q1 q3)
  have hb1:=hblk j i n q3 q2
  have ho1:=hown j i n q3 q2
  refine⟨aK hk e3 hb1 ho1 e1,⟨m2 n (List.mem_of_getElem? q2),fun hd=>⟨rfl,rfl,?_⟩⟩,e3⟩
  have hdi:Ed i=true:=by rw [d1 j o i q1 q3, ←d2 j o n q1 q2];exact hd
  obtain⟨_,_,hI⟩:=e2.2 hdi
  intro k E n' len cs hc
  obtain⟨p1,p2,b,v,p3,p4,p5⟩:=hI k E n' len cs hc
  have hm:=(hin j i n q3 q2).2 k
  have hbm:(Hw F G Gc ns ids).blk (BH k n)=Gc.blk (BH k i):=by simp only [Hw,hm]
  have hom:(Hw F G Gc ns ids).own (BH k n)=Gc.own (BH k i):=by simp only [Hw,hm]
  exact⟨p1,aK hk p1 hbm hom p2,b,v,hb1.trans p3,p4,hom.trans p5⟩
 have hold: ∀ e∈(st.so.filter fun e=> !(Iq ns e.id)).map (As.killP (Iq ns)), ∃ d∈st.so,Iq ns d.id=false∧e=d.killP (Iq ns):=by
  intro e he
  obtain⟨d,hd,rfl⟩:=List.mem_map.1 he
  obtain⟨h1,h2⟩:=List.mem_filter.1 hd
  exact⟨d,h1,by simpa using h2,rfl⟩
 have hdk: ∀ d∈st.so,Iq ns d.id=false→Ed d.id=true→ ∀ k,Iq ns (BH k d.id)=false∧(fun _=>false:Ah→Bool) (BH k d.id)=false:=by
  intro d hd hp hD k
  refine⟨?_,rfl⟩
  cases hq:Iq ns (BH k d.id)with
  | false=>rfl
  | true=>
    obtain⟨n,hn,hq⟩:=List.any_eq_true.1 hq
    simp only [Bool.or_eq_true,beq_iff_eq]at hq
    rcases hq with hq | hq
    ·have:=m2 n hn;rw [←hq]at this;cases this
    ·rw [Hh]at hq
     have:Iq ns d.id=true:=List.any_eq_true.2 ⟨n,hn,by simp only [Bool.or_eq_true];exact .inl hq⟩
     rw [hp]at this;cases this
 refine⟨t.killed h _ (fun e he=>?_) (fun e he=>?_) (fun e he=>?_) ?_,hk,hown⟩
 ·rcases List.mem_append.1 he with he | he
  ·exact(new e he).1
  ·obtain⟨d,h1,h2,rfl⟩:=hold e he
   exact t.ent h h1 h2 rfl
 ·rcases List.mem_append.1 he with he | he
  ·exact(new e he).2.1
  ·obtain⟨d,h1,h2,rfl⟩:=hold e he
   exact t.deep h h1 h2 rfl (hdk d h1 h2)
 ·rcases List.mem_append.1 he with he | he
  ·exact fun _=>(new e he).2.2
  ·obtain⟨d,h1,h2,rfl⟩:=hold e he
   exact Lr (h.pures d h1)
 ·rw [List.map_append,UN l2,List.map_map]
  have e1:(fun e:As=>e.id) ∘ As.killP (Iq ns)=fun e=>e.id:=by funext e;simp [As.killP_id]
  rw [e1]
  refine List.nodup_append.2 ⟨hnn,List.Sublist.nodup (List.Sublist.map (fun d:As=>d.id) List.filter_sublist) h.nodup,fun x hx y hy=>?_⟩
  obtain⟨d,hd,rfl⟩:=List.mem_map.1 hy
  obtain⟨_,h2⟩:=List.mem_filter.1 hd
  intro e
  subst e
  have:Iq ns d.id=true:=List.any_eq_true.2 ⟨d.id,hx,by simp⟩
  simp [this]at h2
theorem Eg.callX {P:Program} {I:World→Prop} {o:Oper} {K:St→Prop} {f:FuncId} {xs:List Operand} {outs:List OE} {ps:List PP} (d:Nat)
 (hk:B2 o.op= .call f xs) (hd:o.dst=some d) (ha:(st.args true xs).1) (hp:BZ ((st.args true xs).2.map (Bn st))=true) (htop:Cx (st.args true xs).2=[])
 (hc:Je P I f ((st.args true xs).2.map (Bn st)) outs ps) {ns:List Ah} (hns:HH outs ns=true) (hnn:ns.Nodup)
 (hK:K ((st.killP (Iq ns) (Cr outs ns++(st.so.filter fun e=> !(Iq ns e.id)).map (As.killP (Iq ns)))).put (some d) (JH ns ps))):Eg P I o st K:=by
 intro F a w G Q0 hI hR
 have hI':I w:=hI▸hR.inv w hR.hsize hR.ext
 have hr:=Ml (a:=a) hk hc.ent w
 unfold Oper.wp Oper.upon
 rw [hr]
 have hx:Ap w G (st.args true xs).2 (xs.map a.eval):=hR.args rfl ha
 have h3:=Ft hR (av:=fun b=>G.wr b) (fun _ _ q=>q) (by rw [htop];simp) hp hx
 refine(hc.run w (xs.map a.eval).toArray (fun b=>G.wr b) hI' (fun b hb=>hR.avlt' hb) (by simpa using h3)).mono fun e w' ⟨v,ids,Gc,he,hids,hnd,hv,hE,hinj,hfr,hwr,hb⟩=>?_
 subst he
 obtain⟨g1,g2,g3⟩:=hR.adoptX hb (fun _ q=>q) hids hnd hns hnn hE hinj hfr hwr
 refine⟨_,Hw F G Gc ns ids,hK,?_⟩
 rw [hd]
 exact R.put (d:=some d) g1 (kw g2 (GT hids).1 g3 (GT hns).1 hc.pok hv)
def mj (P:Program) (st:St) (rs:List ResultVar) (outs:List OE) (ps:List PP):Prop:=
 ∃ ids,HH outs ids=true∧ids.Nodup∧(Cd P st rs).1∧(∀ (w:World) (G:Ay) (v:Value),Ab w G (Cd P st rs).2 v→Ab w G (JH ids ps) v)∧ ∀ e∈Cr outs ids,e∈st.so
theorem Je.of {P:Program} {I:World→Prop} (hst:Hb I) {f:FuncId} {fn:Func} {c:Code} {args:List V} {outs:List OE} {ps:List PP} (hent:PL.ent P f=true) (hf:P.funcs[f]? =some fn) (hb:fn.body=some c) (hpok:ps.all (PP.ok outs.length)=true)
 (h: ∀ F:Fr,F.I=I→Ae P F c (St.start args fn.ntmps) (fun e st'=>(e= .normal ∨e= .ret)∧mj P st' fn.results.toList outs ps)):Je P I f args outs ps:=by
 refine⟨hent,hpok,fun w vs av hI hav hargs=>calls_of_wp hf hb ?_⟩
 have hR:=R.start hst hI hav hargs fn.ntmps
 refine Code.wp_mono (fun e a' w' ⟨st',G',⟨he,q⟩,hR'⟩=>?_) (h ⟨w,av,fun _=>False,I,[]⟩ rfl _ _ _ hR)
 obtain⟨ids,q1,q2,q3,q4,q5⟩:=q
 obtain⟨v,r1,r2⟩:=I6 hR' (fn:=fn) q3
 have fin:a'.defers=[]∧ ∃ v,(results fn a'.tmps).run P w'= .ok v w'∧(fun(e:Ending) w''=> ∃ v ids G',e= .returned v∧HH outs ids=true∧ids.Nodup∧Ab w'' G' (JH ids ps) v∧
  (∀ e∈Cr outs ids,AX w'' G' e∧Bi w'' G' e∧Ao e.cs=true)∧(∀ i j b,G'.blk i=some b→G'.blk j=some b→i=j)∧
  (∀ i b,G'.blk i=some b→w.heap.size≤b∧b<w''.heap.size)∧(∀ b,G'.wr b↔av b∨ ∃ i,G'.blk i=some b)∧Below w.heap.size w w'') (.returned v) w':=by
  refine⟨hR'.dfr,v,r1,v,ids,G',rfl,q1,q2,q4 _ _ _ r2,fun e he'=>⟨hR'.store e (q5 e he'),hR'.deep e (q5 e he'),?_⟩,hR'.inj,fun i b hib=>⟨?_,hR'.lt i b hib⟩,hR'.wr,hR'.below (fun _ hx=>hx)⟩
  ·refine hR'.pures e (q5 e he') ?_
   obtain⟨j,o,i,_,_,rfl⟩:=Nt he'
   rfl
  ·rcases hR'.new i b hib with q | q
   ·exact q
   ·exact q.elim
 rcases he with rfl | rfl<;>exact fin
end
end Go.PL
set_option linter.all false
namespace Go.PL
open Go Go.RowKit
def OE.frz (o:OE):List C:=match o.dp with
 | true=>o.cs.map IB
 | false=>o.cs
def PC.frz (outs:List OE):PC→C
 | .c x=>x
 | .o j=>match outs[j]? with
   | some q=> .sl q.len q.frz
   | none=> .any
def PP.frz (outs:List OE):PP→V
 | .c x=> .c (x.frz outs)
 | .a cs=> .agg (cs.map (PC.frz outs))
def cq (outs:List OE):List PP→V
 | [p]=>p.frz outs
 | ps=> .tup (ps.map (PP.frz outs))
section
variable {w:World} {G:Ay} {av:Nat→Prop}
theorem UO: ∀ {cs:List C} {b o:Nat},Ak w G cs b o→ ∀ k c,cs[k]? =some c→ ∃ v,w.cell? ⟨b,o+k,none⟩=some v∧Ad w G c v
 | [],_,_,_,k,c,h=>by simp at h
 | d::cs,b,o,hr,k,c,h=>by
   simp only [Ak]at hr
   cases k with
   | zero=>simp only [List.getElem?_cons_zero,Option.some.injEq]at h;subst h;simpa using hr.1
   | succ k=>
     have:=UO hr.2 k c (by simpa using h)
     rw [show o+(k+1)=o+1+k by omega];exact this
theorem Rs (hsub: ∀ b,b<w.heap.size→av b→G.wr b) (hb: ∀ i b,G.blk i=some b→ ¬av b) (hlt: ∀ i b,G.blk i=some b→b<w.heap.size) {i:Ah} {E:TypeId} {n len:Nat} {cs ds:List C} {v:Value} (hE:AX w G ⟨i,some (E,n,len),cs,true⟩) (hv:G.own i=some v)
 (hd:Ao ds=true) (hl:ds.length=cs.length) (hrow: ∀ b,G.blk i=some b→Ak w G cs b 0→Ak w (im av) ds b 0):Ad w (im av) (.sl len ds) v:=by
 unfold AX at hE
 obtain⟨h0,v',h1,h2⟩:=hE
 rw [hv]at h1
 injection h1 with h1
 subst h1
 simp only [Ad]
 refine⟨hd,?_⟩
 rcases h2 with ⟨p,rfl,rfl,_⟩ | ⟨b,cap,cur,rfl,e2,e3,e4,e5,e6,e7⟩
 ·exact⟨p,0,rfl,Nat.le_refl _,Nat.zero_le _,fun _=>List.length_eq_zero_iff.1 (by rw [hl,h0];simp), .inl rfl⟩
 ·refine⟨_,cap,rfl,e4,e5,fun hz=>List.length_eq_zero_iff.1 (by rw [hl,h0,hz];simp), .inr ⟨b,0,rfl,hb i b e2,hlt i b e2,hrow b e2 e7⟩⟩
theorem ml (hsub: ∀ b,b<w.heap.size→av b→G.wr b) (hb: ∀ i b,G.blk i=some b→ ¬av b) (hlt: ∀ i b,G.blk i=some b→b<w.heap.size) {o:OE} {i:Ah} {v:Value} (hE:AX w G (o.ent i)) (hD:Bi w G (o.ent i)) (hdp:Ed i=o.dp) (hp:Ao o.cs=true) (hv:G.own i=some v):Ad w (im av) (.sl o.len o.frz) v:=by
 have hk:B3 G (im av) w w:=B3.sub hsub
 have mono: ∀ c u,c.pure=true→Ad w G c u→Ad w (im av) c u:=fun c u hc h=>Ad.mono hk c u (fun i hi=>absurd (show c.men i=true from hi) (by rw [FT i c hc];simp)) h
 unfold OE.frz
 cases hq:o.dp with
 | false=>
   refine Rs hsub hb hlt hE hv hp rfl fun b _ hr=>?_
   exact Ak.mono hk _ _ _ (fun i hi=>absurd (show BE i o.cs=true from hi) (by rw [AG i o.cs hp];simp)) (fun _=>rfl) hr
 | true=>
   obtain⟨_,_,hI⟩:=hD.2 (by show Ed i=true;rw [hdp,hq])
   have pf:Ao (o.cs.map IB)=true:=by
    rw [Cc,List.all_eq_true]at hp ⊢
    intro c hc
    obtain⟨d,hd,rfl⟩:=List.mem_map.1 hc
    have:=hp d hd
    cases d<;>first | exact this | rfl
   refine Rs hsub hb hlt hE hv pf (by simp) fun b hbi hr=>gw fun k c hc=>?_
   obtain⟨u,u1,u2⟩:=UO hr k c hc
   refine⟨u,u1,?_⟩
   by_cases hisl: ∃ E n len cs,c= .isl E n len cs
   ·obtain⟨E,n,len,cs,rfl⟩:=hisl
    obtain⟨k1,k2,b',u',k3,k4,k5⟩:=hI k E n len cs hc
    have k3:G.blk i=some b':=k3
    rw [hbi]at k3
    injection k3 with k3
    subst k3
    rw [Nat.zero_add]at u1
    rw [u1]at k4
    injection k4 with k4
    subst k4
    simp only [IB]
    exact Rs hsub hb hlt k2 k5 k1 rfl fun b _ hr=>Ak.mono hk _ _ _ (fun i hi=>absurd (show BE i cs=true from hi) (by rw [AG i cs k1];simp)) (fun _=>rfl) hr
   ·have e:IB c=c:=by cases c<;>first | rfl | exact(hisl ⟨_,_,_,_,rfl⟩).elim
    rw [e]
    have hcp:c.pure=true:=by
     rw [Cc,List.all_eq_true]at hp
     exact hp c (List.mem_of_getElem? hc)
    exact mono c u hcp u2
end
theorem Je.flat {P:Program} {I:World→Prop} {f:FuncId} {args:List V} {outs:List OE} {ps:List PP} (h:Je P I f args outs ps) (hpure:(cq outs ps).pure =true):CC P I f args (· =cq outs ps):=by
 refine⟨h.ent,fun w vs av hI hav hr=>(h.run w vs av hI hav hr).mono ?_⟩
 rintro e w' ⟨v,ids,G,he,hns,hnd,hv,hE,hinj,hfr,hwr,hb⟩
 refine⟨v,_,he,rfl,hpure,?_,hb⟩
 obtain⟨l1,m1,d1⟩:=GT hns
 have hsub: ∀ b,b<w'.heap.size→av b→G.wr b:=fun b _ ha=>(hwr b).2 (.inl ha)
 have hbn: ∀ i b,G.blk i=some b→ ¬av b:=fun i b hib ha=>by have:=hav b ha;have:=(hfr i b hib).1;omega
 have hlt: ∀ i b,G.blk i=some b→b<w'.heap.size:=fun i b hib=>(hfr i b hib).2
 have hk:B3 G (im av) w' w':=B3.sub hsub
 have pc: ∀ (p:PC) (u:Value),p.ok outs.length=true→Ad w' G (p.toC ids) u→Ad w' (im av) (p.frz outs) u:=by
  intro p u hp hu
  cases p with
  | c x=>exact Ad.mono hk x u (fun i hi=>absurd (show x.men i=true from hi) (by rw [FT i x hp];simp)) hu
  | o j=>
    simp only [PC.ok,Nat.blt_eq]at hp
    simp only [PC.toC,Ad]at hu
    have e1:outs[j]? =some outs[j]:=List.getElem?_eq_getElem hp
    have e2:ids[j]? =some (ids.getD j []):=by rw [List.getD_eq_getElem?_getD,List.getElem?_eq_getElem (by omega)];rfl
    simp only [PC.frz,e1]
    obtain⟨q1,q2,q3⟩:=hE _ (Rr e1 e2)
    exact ml hsub hbn hlt q1 q2 (d1 j _ _ e1 e2) q3 hu.1
 have pl: ∀ (cs:List PC) (us:List Value),cs.all (PC.ok outs.length)=true→Ai w' G (cs.map (PC.toC ids)) us→Ai w' (im av) (cs.map (PC.frz outs)) us:=by
  intro cs
  induction cs with
  | nil=>intro us _ hu;cases us<;>simpa [Ai] using hu
  | cons c cs ih=>
    intro us hc hu
    cases us with
    | nil=>simp [Ai]at hu
    | cons u us=>
      simp only [List.all_cons,Bool.and_eq_true]at hc
      simp only [List.map_cons,Ai]at hu ⊢
      exact⟨pc c u hc.1 hu.1,ih us hc.2 hu.2⟩
 have pp: ∀ (p:PP) (u:Value),p.ok outs.length=true→Ab w' G (p.toV ids) u→Ab w' (im av) (p.frz outs) u:=by
  intro p u hp hu
  cases p with
  | c x=>simp only [PP.toV,PP.frz,Ab]at hu ⊢;exact pc x u hp hu
  | a cs=>
    simp only [PP.toV,PP.frz,Ab]at hu ⊢
    obtain⟨arr,e,hu⟩:=hu
    exact⟨arr,e,pl cs _ hp hu⟩
 have pps: ∀ (l:List PP) (us:List Value),l.all (PP.ok outs.length)=true→Ap w' G (l.map (PP.toV ids)) us→Ap w' (im av) (l.map (PP.frz outs)) us:=by
  intro l
  induction l with
  | nil=>intro us _ hu;simpa [Ap] using hu
  | cons p l ih=>
    intro us hp hu
    simp only [List.all_cons,Bool.and_eq_true]at hp
    simp only [List.map_cons,Ap]at hu ⊢
    obtain⟨u,r,e,h1,h2⟩:=hu
    exact⟨u,r,e,pp p u hp.1 h1,ih r hp.2 h2⟩
 have hok:=h.pok
 match ps,hok,hv with
 | [p],hok,hv=>
   simp only [List.all_cons,List.all_nil,Bool.and_true]at hok
   exact pp p v hok hv
 | [],hok,hv=>
   simp only [JH,cq,Ab]at hv ⊢
   obtain⟨arr,e,hv⟩:=hv
   exact⟨arr,e,pps [] _ hok hv⟩
 | p::q::l,hok,hv=>
   simp only [JH,cq,Ab]at hv ⊢
   obtain⟨arr,e,hv⟩:=hv
   exact⟨arr,e,pps (p::q::l) _ hok hv⟩
end Go.PL
set_option linter.all false
namespace Go.PL
open Go Go.RowKit
mutual
theorem UP {p q:Ah→Bool} (h: ∀ i,q i=true→p i=true): ∀ c:C,c.menP p=false→c.menP q=false
 | .osl i,k=>by simp only [C.menP]at k ⊢;cases hq:q i with | false=>rfl | true=>rw [h i hq]at k;cases k
 | .ptr i _,k=>by simp only [C.menP]at k ⊢;cases hq:q i with | false=>rfl | true=>rw [h i hq]at k;cases k
 | .rsl i _ _ _,k=>by simp only [C.menP]at k ⊢;cases hq:q i with | false=>rfl | true=>rw [h i hq]at k;cases k
 | .bsl i _ _,k=>by simp only [C.menP]at k ⊢;cases hq:q i with | false=>rfl | true=>rw [h i hq]at k;cases k
 | .bld i _,k=>by simp only [C.menP]at k ⊢;cases hq:q i with | false=>rfl | true=>rw [h i hq]at k;cases k
 | .mref i,k=>by simp only [C.menP]at k ⊢;cases hq:q i with | false=>rfl | true=>rw [h i hq]at k;cases k
 | .clo _ cs,k=>by simp only [C.menP]at k ⊢;exact Eu h cs k
 | .bmv _ cs,k=>by simp only [C.menP]at k ⊢;exact Eu h cs k
 | .int ..,_=>rfl
 | .bool _,_=>rfl
 | .str _,_=>rfl
 | .sl ..,_=>rfl
 | .iptr ..,_=>rfl
 | .nilp,_=>rfl
 | .niface,_=>rfl
 | .nils,_=>rfl
 | .fn _,_=>rfl
 | .held,_=>rfl
 | .any,_=>rfl
 | .gptr ..,_=>rfl
 | .mp _,_=>rfl
 | .isl ..,_=>rfl
theorem Eu {p q:Ah→Bool} (h: ∀ i,q i=true→p i=true): ∀ cs:List C,CO p cs=false→CO q cs=false
 | [],_=>rfl
 | c::cs,k=>by
   simp only [CO,Bool.or_eq_false_iff]at k ⊢
   exact⟨UP h c k.1,Eu h cs k.2⟩
end
mutual
theorem Ev {p q:Ah→Bool} (h: ∀ i,q i=true→p i=true): ∀ v:V,v.menP p=false→v.menP q=false
 | .c x,k=>by simp only [V.menP]at k ⊢;exact UP h x k
 | .agg cs,k=>by simp only [V.menP]at k ⊢;exact Eu h cs k
 | .tup vs,k=>by simp only [V.menP]at k ⊢;exact OS h vs k
 | .g _ v,k=>by simp only [V.menP]at k ⊢;exact Ev h v k
 | .undef,_=>by simp only [V.menP]
theorem OS {p q:Ah→Bool} (h: ∀ i,q i=true→p i=true): ∀ vs:List V,JY p vs=false→JY q vs=false
 | [],_=>by simp only [JY]
 | v::vs,k=>by
   simp only [JY,Bool.or_eq_false_iff]at k ⊢
   exact⟨Ev h v k.1,OS h vs k.2⟩
end
structure AR where
 k:Nat
 r:Ah
 E:TypeId
 n:Nat
 len:Nat
 cs:List C
def AR.ent (x:AR):As:=⟨x.r,some (x.E,x.n,x.len),x.cs,true⟩
def Gy (l:List C) (rs:List AR):List C:=rs.foldl (fun l x=>l.set x.k (.isl x.E x.n x.len x.cs)) l
structure UQ (p:Ah→Bool) (id:Ah) (ns:List Ah) (new:As) (A B:St):Prop where
 len:B.tm.length=A.tm.length
 tm: ∀ i,B.tm.getD i .undef = .undef ∨(B.tm.getD i .undef =A.tm.getD i .undef ∧(A.tm.getD i .undef).menP p=false)
 glen:B.gh.length=A.gh.length
 gh: ∀ i,B.gh.getD i .undef = .undef ∨(B.gh.getD i .undef =A.gh.getD i .undef ∧(A.gh.getD i .undef).menP p=false)
 so: ∀ x∈B.so,x=new∨x∈A.so∧x.id ≠ id∧x.id∉ns∧(x.pu=true∨CO p x.cs=false)
 nd:(B.so.map (·.id)).Nodup
 pre:B.pre=A.pre
section
variable {F:Fr} {a:Act} {w:World}
theorem R.absorbL {id:Ah} {b:Nat} {p:Ah→Bool}: ∀ (rs:List AR) {st:St} {G:Ay} {e:As},R F st a w G→st.lookD id=some e→G.blk id=some b→
 (∀ x∈rs,st.look x.r=some x.ent∧x.k<e.cs.length∧(∀ i,pD x.r id i=true→p i=true)∧ ∃ v,w.cell? ⟨b,x.k,none⟩=some v∧G.own x.r=some v)→(rs.map (·.r)).Nodup →
 ∀ B:St,UQ p id (rs.map (·.r)) ⟨id,e.row,Gy e.cs rs,true⟩ st B→ ∃ G',R F B a w G'
 | [],st,G,e,h,hl,hb,_,_,B,hB=>by
   obtain⟨hm,hid,_,_,hpu,_⟩:=h.deepRow hl
   refine⟨G,h.less ⟨hB.len,fun i=>(hB.tm i).imp (fun q=>q) (fun q=>q.1),fun x hx=>?_,fun _=>hB.nd,⟨hB.glen,fun i=>(hB.gh i).imp (fun q=>q) (fun q=>q.1)⟩,hB.pre⟩⟩
   rcases hB.so x hx with rfl | ⟨q,_⟩
   ·have:(⟨id,e.row,Gy e.cs [],true⟩:As)=e:=by
     obtain⟨i,r,cs,pu⟩:=e
     simp only at hid hpu
     subst hid hpu
     rfl
    rw [this];exact hm
   ·exact q
 | x::rs,st,G,e,h,hl,hb,hx,hnd,B,hB=>by
   simp only [List.map_cons,List.nodup_cons]at hnd
   obtain⟨x1,x2,x3,v,x4,x5⟩:=hx x (by simp)
   obtain⟨hm,hid,hd,hmk,hpu,_⟩:=h.deepRow hl
   obtain⟨hmr,hidr⟩:=A0 x1
   have hndr:=En x1
   have hmkr:CJ x.r=false:=by rw [←hidr];exact(h.deep _ hmr).1
   have hrid:x.r ≠ id:=fun q=>by rw [q,hd]at hndr;cases hndr
   obtain⟨G1,g1,g2,g3,g4⟩:=h.absorbA hl x1 rfl rfl hb x4 x5 x2
   have hmem: ∀ d∈st.so,d.id ≠ x.r→d.id ≠ id→(d.pu=true∨CO p d.cs=false)→d∈((st.so.filter (fun d=>d.id != x.r)).map (As.killP (pD x.r id))).map (setE id e.row (e.cs.set x.k (.isl x.E x.n x.len x.cs))):=by
    intro d hd' q1 q2 q3
    refine List.mem_map.2 ⟨d,List.mem_map.2 ⟨d,List.mem_filter.2 ⟨hd',by simpa using q1⟩,?_⟩,EZ q2⟩
    obtain⟨i,r,cs,pu⟩:=d
    cases pu with
    | true=>rfl
    | false=>
      rcases q3 with q3 | q3
      ·cases q3
      ·have:=Eu x3 cs q3
       simp only [As.killP,As.mk.injEq,true_and,and_true]
       have key: ∀ l:List C,CO (pD x.r id) l=false→l.map (Cz (pD x.r id))=l:=by
        intro l
        induction l with
        | nil=>intro _;rfl
        | cons c l ih=>
          intro hq
          simp only [CO,Bool.or_eq_false_iff]at hq
          rw [List.map_cons,ih hq.2,Cz,if_neg (by simp [hq.1])]
       exact key cs this
   have hL1:(st.killP (pD x.r id) (((st.so.filter (fun d=>d.id != x.r)).map (As.killP (pD x.r id))).map (setE id e.row (e.cs.set x.k (.isl x.E x.n x.len x.cs))))).lookD id=some ⟨id,e.row,e.cs.set x.k (.isl x.E x.n x.len x.cs),true⟩:=by
    refine g1.lookD_of ?_ rfl hd
    refine List.mem_map.2 ⟨e,List.mem_map.2 ⟨e,List.mem_filter.2 ⟨hm,by rw [hid];simpa using hrid.symm⟩,?_⟩,?_⟩
    ·obtain⟨i,r,cs,pu⟩:=e
     simp only at hpu;subst hpu;rfl
    ·rw [DZ hid,hid,hpu];rfl
   refine R.absorbL (p:=p) rs g1 hL1 (g3.trans hb) (fun y hy=>?_) hnd.2 B ?_
   ·obtain⟨y1,y2,y3,v',y4,y5⟩:=hx y (by simp [hy])
    obtain⟨hmy,hidy⟩:=A0 y1
    have hyr:y.r ≠ x.r:=fun q=>hnd.1 (by rw [←q];exact List.mem_map.2 ⟨y,hy,rfl⟩)
    have hyd:=En y1
    have hyid:y.r ≠ id:=fun q=>by rw [q,hd]at hyd;cases hyd
    refine⟨g1.look_of (hmem _ hmy hyr hyid (.inl rfl)) rfl hyd rfl,by simpa using y2,y3,v',y4,?_⟩
    have hpf:pD x.r id y.r=false:=by
     have hmky:CJ y.r=false:=by rw [←hidy];exact(h.deep _ hmy).1
     simp only [pD,Bool.or_eq_false_iff,beq_eq_false_iff_ne]
     refine⟨hyr,?_⟩
     cases hq:Dm id y.r with
     | false=>rfl
     | true=>rw [Hi hq]at hmky;cases hmky
    rw [(g4 _ hpf).2];exact y5
   ·refine⟨by simp [St.killP,hB.len],fun i=>?_,by simp [St.killP,hB.glen],fun i=>?_,fun z hz=>?_,hB.nd,hB.pre⟩
    ·rcases hB.tm i with q | ⟨q1,q2⟩
     ·exact .inl q
     ·right
      simp only [St.killP]
      rw [EE (by simp [BR,V.menP])]
      have:=Ev x3 _ q2
      rw [show BR (pD x.r id) (st.tm.getD i .undef)=st.tm.getD i .undef from if_neg (by rw [this];exact Bool.false_ne_true)]
      exact⟨q1,q2⟩
    ·rcases hB.gh i with q | ⟨q1,q2⟩
     ·exact .inl q
     ·right
      simp only [St.killP]
      have e1:(st.gh.map (BR (pD x.r id))).getD i .undef =BR (pD x.r id) (st.gh.getD i .undef):=by
       simp only [List.getD_eq_getElem?_getD,List.getElem?_map]
       cases st.gh[i]? <;>simp [BR,V.menP]
      have:=Ev x3 _ q2
      rw [e1,show BR (pD x.r id) (st.gh.getD i .undef)=st.gh.getD i .undef from if_neg (by rw [this];exact Bool.false_ne_true)]
      exact⟨q1,q2⟩
    ·rcases hB.so z hz with q | ⟨q1,q2,q3,q4⟩
     ·left
      rw [q]
      simp only [Gy,List.foldl_cons]
     ·right
      simp only [List.map_cons,List.mem_cons,not_or]at q3
      exact⟨hmem z q1 q3.1 q2 q4,q2,q3.2,q4⟩
end
end Go.PL
namespace Go.PL
open Go Go.RowKit
def IH:Op→Bool
 | .move _=>true
 | .nilCheck _=>true
 | .fieldAddr .. =>true
 | .indexAddr .. =>true
 | .unOp .. =>true
 | .extract .. =>true
 | _=>false
theorem cr {P:Program} {F:Fr} {st:St} {a:Act} {w:World} {G:Ay} (h:R F st a w G) {g:Bool} (hg:g=true) {o:Oper} (hA:IH o.op=true) (hs:(rd P st g o.op).1):
 ∃ v,Ab w G (rd P st g o.op).2 v∧ ∀ w',(execOp a.eval o).run P w'= .ok (.value v) w':=by
 cases ho:o.op<;>simp only [rd,ho,bnd]at hs ⊢ <;>try (first | exact hs.elim | (rw [ho]at hA;cases hA;done))
 case move x=>exact⟨_,h.arg hg hs,fun w'=>by simp [execOp,ho]⟩
 case nilCheck x=>
  obtain⟨h1,h2⟩:=hs
  have hx:=h.arg hg h1
  unfold Na at h2 ⊢
  split at h2
  ·rename_i id off e
   rw [e]at hx
   simp only [Ab,Ad]at hx ⊢
   obtain⟨b,hb,hv⟩:=hx
   exact⟨_,⟨b,hb,rfl⟩,fun w'=>by simp [execOp,ho,hv]⟩
  ·rename_i cs off e
   rw [e]at hx
   simp only [Ab,Ad]at hx ⊢
   obtain⟨hp,b,o',hv,k1⟩:=hx
   exact⟨_,⟨hp,b,o',rfl,k1⟩,fun w'=>by simp [execOp,ho,hv]⟩
  ·rename_i f e
   rw [e]at hx
   simp only [Ab,Ad]at hx ⊢
   exact⟨_,rfl,fun w'=>by simp [execOp,ho,hx]⟩
  ·rename_i f cs e
   rw [e]at hx
   simp only [Ab,Ad]at hx ⊢
   obtain⟨arr,hv,hr⟩:=hx
   exact⟨_,⟨arr,rfl,hr⟩,fun w'=>by simp [execOp,ho,hv]⟩
  ·rename_i f cs e
   rw [e]at hx
   simp only [Ab,Ad]at hx ⊢
   obtain⟨arr,hv,hr⟩:=hx
   exact⟨_,⟨arr,rfl,hr⟩,fun w'=>by simp [execOp,ho,hv]⟩
  ·exact h2.elim
 case unOp op t x=>
  obtain⟨v,q1,q2⟩:=Ub (P:=P) (h.arg hg hs.1) hs.2
  exact⟨v,q1,fun w'=>by simp [execOp,ho,q2 w']⟩
 case extract x i=>
  obtain⟨h1,h2⟩:=hs
  have hx:=h.arg hg h1
  unfold YF at h2 ⊢
  split at h2
  ·rename_i vs e
   rw [e]at hx
   simp only [Ab]at hx
   obtain⟨arr,hv,hr⟩:=hx
   obtain⟨v,q1,q2⟩:=GM hr i h2
   have q1':arr[i]? =some v:=by simpa using q1
   exact⟨v,q2,fun w'=>by simp [execOp,ho,hv,Instr.extract,q1']⟩
  ·exact h2.elim
 case fieldAddr s x f=>
  obtain⟨v,q1,q2⟩:=Ix (P:=P) (h.arg hg hs.1) hs.2
  exact⟨v,q1,fun w'=>by simp [execOp,ho,q2 w']⟩
 case indexAddr t x i=>
  obtain⟨v,q1,q2⟩:=Iy (P:=P) h (h.arg hg hs.1) (h.arg hg hs.2.1) hs.2.2
  exact⟨v,q1,fun w'=>by simp [execOp,ho,q2 w']⟩
theorem Zl {P:Program} {F:Fr} {st:St} {a:Act} {w:World} {G:Ay} (h:R F st a w G) {g:Bool} (hg:g=true) {o:Oper} (hA:IH o.op=true) (hs:(De P st g o.op).1):
 ∃ v,Ab w G (De P st g o.op).2 v∧ ∀ w',(execOp a.eval o).run P w'= .ok (.value v) w':=by
 have e:De P st g o.op=rd P st g o.op:=by
  cases ho:o.op<;>first
   | rfl
   | (rw [ho]at hA;cases hA)
 rw [e]at hs ⊢
 exact cr h hg hA hs
def C4 (o:Oper):Nat:=match o.guard,o.dst with
 | none,some _=>match IH o.op with
   | true=>2
   | false=>match o.op with
     | .load .. =>1
     | .slice .. =>1
     | _=>0
 | _,_=>0
def J9 (ops:Array Oper) (i:Nat):Nat:=match ops[i]? with
 | some o=>C4 o
 | none=>0
def ct (P:Program) (z:Prop) (o:Oper) (a:Act) (w:World):Prop:=
 ∀ d,o.dst=some d→ ∃ u,(z∨u=a.tmps.getD d Go.undef)∧ ∀ w',(C4 o=2∨Cv w w')→(execOp a.eval o).run P w'= .ok (.value u) w'
def lW (ops:Array Oper) (pr:List (List Nat)) (i:Nat) (L:Array Bool):Prop:= ∃ k,L.getD k false=true∧J9 ops k=0∧i∈pr.getD k []
def LH (ops:Array Oper) (lz:List Nat):Bool:=lz.all fun p=>match ops[p]? with
 | some o=>Nat.beq (C4 o) 1&&match o.dst with
   | some d=>(List.range ops.size).all fun k=>Nat.beq k p||match ops[k]? with
     | some ok=>(Nat.beq (C4 ok) 0|| !(ok.looksAt ops).contains d)&&match ok.dst with
       | some e=> !Nat.beq e d
       | none=>true
     | none=>true
   | none=>false
 | none=>false
def S5 (P:Program) (ops:Array Oper) (pr:List (List Nat)) (lz:List Nat) (L:Array Bool) (a:Act) (w:World):Prop:=
 ∀ i o,ops[i]? =some o→C4 o ≠ 0→L.getD i false=true→ ¬lW ops pr i L→ct P (i∈lz) o a w
def mZ (P:Program) (ops:Array Oper) (pr:List (List Nat)) (lz:List Nat) (L:Array Bool) (w:World) (a a':Act):Prop:=
 ∃ p o d u,p∈lz∧ops[p]? =some o∧o.dst=some d∧L.getD p false=true∧ ¬lW ops pr p L∧(execOp a.eval o).run P w= .ok (.value u) w∧a'=a.put (some d) u
inductive Ups (P:Program) (ops:Array Oper) (pr:List (List Nat)) (lz:List Nat) (L:Array Bool) (w:World) (a:Act):Act→Prop
 | refl:Ups P ops pr lz L w a a
 | step {b c:Act}:Ups P ops pr lz L w a b→mZ P ops pr lz L w b c→Ups P ops pr lz L w a c
def Dj (P:Program) (ops:Array Oper) (Q:Exit→Act→World→Prop) (pr:List (List Nat)) (lz:List Nat):Nat→Array Bool→Act→World→Prop
 | 0,L,a,w=>Region.ready .any ops L=[]∧Q .normal a w
 | fuel+1,L,a,w=>(Region.ready .any ops L=[]→Q .normal a w)∧
   ∀ i∈Region.ready .any ops L,wpOp P ops Q i (fun a' w'=> ∀ a'',Ups P ops pr lz (L.setIfInBounds i true) w' a' a''→S5 P ops pr lz (L.setIfInBounds i true) a'' w'∧Dj P ops Q pr lz fuel (L.setIfInBounds i true) a'' w') a w
def Nu (ops:Array Oper) (pr:List (List Nat)):Bool:=Region.noSelect ops&&(VK ops pr&&(List.range ops.size).all fun p=>match ops[p]? with
 | none=>true
 | some o=>match C4 o,o.dst with
   | 0,_=>true
   | _,none=>false
   | _,some d=> !(o.looksAt ops).contains d&&(List.range ops.size).all fun k=>Nat.beq k p||match ops[k]? with
     | none=>true
     | some ok=>(Hj (pr.getD p []) k||((Nat.beq (C4 ok) 0&&Hj (pr.getD k []) p)||match ok.dst with
      | some e=> !(o.looksAt ops).contains e&& !Nat.beq e d
      | none=>true))&&(Hj (pr.getD k []) p||(Hj (pr.getD p []) k||o.apart ops ok)))
section
variable {P:Program} {ops:Array Oper} {Q:Exit→Act→World→Prop} {pr:List (List Nat)} {lz:List Nat}
theorem Rt: ∀ (fuel:Nat) (L:Array Bool) (a:Act) (w:World),Dj P ops Q pr lz fuel L a w→wpAny P .any ops Q fuel L a w
 | 0,_,_,_,h=>h
 | fuel+1,_,_,_,h=>⟨h.1,fun i hi=>wpOp_mono (fun a' w' h'=>Rt fuel _ a' w' (h' a' .refl).2) (h.2 i hi)⟩
theorem II {o:Oper} (h:C4 o ≠ 0):o.guard=none∧ ∃ d,o.dst=some d:=by
 unfold C4 at h
 split at h
 ·rename_i d hg hd;exact⟨hg,d,hd⟩
 ·exact absurd rfl h
theorem FA (h:Nu ops pr=true):Region.noSelect ops=true∧VK ops pr=true∧ ∀ p o,ops[p]? =some o→C4 o ≠ 0→ ∀ d,o.dst=some d→d∉o.looksAt ops∧ ∀ k ok,ops[k]? =some ok→k ≠ p→
 (k∈pr.getD p []∨(C4 ok=0∧p∈pr.getD k [])∨ ∀ e,ok.dst=some e→e∉o.looksAt ops∧e ≠ d)∧(p∈pr.getD k []∨k∈pr.getD p []∨o.apart ops ok=true):=by
 simp only [Nu,Bool.and_eq_true,List.all_eq_true,List.mem_range]at h
 refine⟨h.1,h.2.1,fun p o hp hc d hd=>?_⟩
 have hlt:p<ops.size:=(Array.getElem?_eq_some_iff.1 hp).1
 have:=h.2.2 p hlt
 simp only [hp,hd]at this
 simp only [Bool.and_eq_true,Bool.not_eq_true',List.all_eq_true,List.mem_range]at this
 refine⟨by simpa using this.1,fun k ok hk hne=>?_⟩
 have hkl:k<ops.size:=(Array.getElem?_eq_some_iff.1 hk).1
 have:=this.2 k hkl
 simp only [hk,Bool.or_eq_true,Bool.and_eq_true,Eh,Nat.beq_eq]at this
 rcases this with q | ⟨q1,q2⟩
 ·exact absurd q hne
 ·refine⟨q1.imp id fun q=>q.imp id fun q e he=>?_,q2⟩
  rw [he]at q
  simp only [Bool.and_eq_true,Bool.not_eq_true']at q
  refine⟨by simpa using q.1,fun e=>?_⟩
  subst e
  have:=q.2
  simp at this
def eD (pr:List (List Nat)) (L:Array Bool):Prop:= ∀ k,L.getD k false=true→ ∀ j∈pr.getD k [],L.getD j false=true
theorem m7 (hp:VK ops pr=true): ∀ (k:Nat),k<ops.size→ ∀ j∈pr.getD k [],j<k:=by
 intro k
 induction k using Nat.strongRecOn with
 | ind k ih=>
   intro hk j hj
   have hp':=hp
   simp only [VK,List.all_eq_true,List.mem_range,Bool.and_eq_true,Bool.or_eq_true,List.any_eq_true,Eh,Nat.blt_eq]at hp'
   obtain⟨h1,h2⟩:=hp' k hk
   rcases h2 j hj with q | ⟨m,hm,q⟩
   ·exact(h1 j q).1
   ·have h3:=(h1 m hm).1
    have:=ih m h3 (by omega) j q
    omega
theorem HY {L:Array Bool} {i:Nat} (h:L.getD i true=false):L.getD i false=false:=by
 rcases Nat.lt_or_ge i L.size with q | q
 ·simp [q]at h ⊢;exact h
 ·simp [Array.getElem?_eq_none q]at h
theorem getD_tf' {L:Array Bool} {i:Nat} (h:L.getD i true=false):(L.setIfInBounds i true).getD i false=true:=by
 rcases Nat.lt_or_ge i L.size with q | q
 ·simp [q]
 ·simp [Array.getElem?_eq_none q]at h
theorem C1 {L:Array Bool} {i k:Nat} (h:(L.setIfInBounds i true).getD k false=true):k=i∨L.getD k false=true:=by
 by_cases q:i=k
 ·exact .inl q.symm
 ·right;rwa [getD_set_ne false q]at h
theorem EN (hp:VK ops pr=true) {L:Array Bool} (hd:eD pr L) {i:Nat} (h:i∈Region.ready .any ops L):i<ops.size∧L.getD i true=false∧ ∀ j∈pr.getD i [],L.getD j false=true:=by
 obtain⟨h0,o,ho,hall⟩:=mem_ready.1 h
 have hlt:i<ops.size:=(Array.getElem?_eq_some_iff.1 ho).1
 refine⟨hlt,h0,fun j hj=>?_⟩
 have hp':=hp
 simp only [VK,List.all_eq_true,List.mem_range,Bool.and_eq_true,Bool.or_eq_true,List.any_eq_true,Eh,Nat.blt_eq]at hp'
 have dir: ∀ k∈Xj ops i,L.getD k false=true:=fun k hk=>by
  unfold Xj at hk
  rw [ho]at hk
  simp only [List.mem_map,List.mem_filter]at hk
  obtain⟨e,⟨he,hb⟩,rfl⟩:=hk
  exact hall e (by simpa using he) hb
 rcases (hp' i hlt).2 j hj with q | ⟨m,hm,q⟩
 ·exact dir j q
 ·exact hd m (dir m hm) j q
theorem eD.set (hp:VK ops pr=true) {L:Array Bool} (hd:eD pr L) {i:Nat} (h:i∈Region.ready .any ops L):eD pr (L.setIfInBounds i true):=fun k hk j hj=>by
 rcases C1 hk with rfl | hk
 ·exact getD_set_true ((EN hp hd h).2.2 j hj)
 ·exact getD_set_true (hd k hk j hj)
theorem XG (a:Act) (d:Nat) (v:Value):a.put (some d) ((a.put (some d) v).tmps.getD d Go.undef)=a.put (some d) v:=by
 rcases Nat.lt_or_ge d a.tmps.size with q | q
 ·simp [Act.put,Array.getD_eq_getD_getElem?,q]
 ·have: ∀ u:Value,a.put (some d) u=a:=fun u=>by
   simp only [Act.put]
   rw [Array.setIfInBounds_eq_of_size_le (by omega)]
  rw [this,this]
theorem Dz {a:Act} {x:Option Tmp} {v:Value} {d:Nat} (h: ∀ e,x=some e→e ≠ d):(a.put x v).tmps.getD d Go.undef=a.tmps.getD d Go.undef:=by
 cases x with
 | none=>rfl
 | some e=>
   have:=h e rfl
   simp [Act.put,Array.getD_eq_getD_getElem?,Array.getElem?_setIfInBounds_ne this]
theorem ct.of_put {z:Prop} {o:Oper} {a:Act} {w:World} {x:Option Tmp} {v:Value} (hs: ∀ cs b,o.op ≠ .select cs b) (h1: ∀ e,x=some e→e∉o.looksAt ops) (h2: ∀ d e,o.dst=some d→x=some e→e ≠ d):ct P z o (a.put x v) w↔ct P z o a w:=by
 unfold ct
 refine forall_congr' fun d=>forall_congr' fun hd=>?_
 rw [execOp_put o hs a x v h1,Dz (fun e he=>h2 d e hd he)]
theorem gX (a:Act) (d:Nat) (v u:Value):(a.put (some d) v).put (some d) u=a.put (some d) u:=by
 simp only [Act.put,Array.setIfInBounds_setIfInBounds]
theorem eE (a:Act) {d e:Nat} (h:e ≠ d) (v u:Value):(a.put (some d) v).put (some e) u=(a.put (some e) u).put (some d) v:=by
 simp only [Act.put]
 rw [Array.setIfInBounds_comm _ _ (Ne.symm h)]
theorem GU (h:LH ops lz=true) {p:Nat} (hp:p∈lz) {o:Oper} (ho:ops[p]? =some o):C4 o=1∧ ∀ d,o.dst=some d→ ∀ k ok,ops[k]? =some ok→k ≠ p→(C4 ok ≠ 0→d∉ok.looksAt ops)∧ ∀ e,ok.dst=some e→e ≠ d:=by
 simp only [LH,List.all_eq_true]at h
 have:=h p hp
 rw [ho]at this
 simp only [Bool.and_eq_true,Nat.beq_eq]at this
 refine⟨this.1,fun d hd k ok hk hne=>?_⟩
 have h2:=this.2
 rw [hd]at h2
 simp only [List.all_eq_true,List.mem_range]at h2
 have h3:=h2 k (Array.getElem?_eq_some_iff.1 hk).1
 rw [hk]at h3
 simp only [Bool.or_eq_true,Bool.and_eq_true,Nat.beq_eq,Bool.not_eq_true']at h3
 rcases h3 with q | ⟨q1,q2⟩
 ·exact absurd q hne
 ·refine⟨fun hc=>?_,fun e he=>?_⟩
  ·rcases q1 with q | q
   ·exact absurd q hc
   ·simpa using q
  ·rw [he]at q2
   intro e';subst e';simp at q2
theorem S5.up1 (hst:Nu ops pr=true) (hlz:LH ops lz=true) {L:Array Bool} {a a':Act} {w:World} (h:S5 P ops pr lz L a w) (hu:mZ P ops pr lz L w a a'):S5 P ops pr lz L a' w:=by
 obtain⟨hns,hp,hstat⟩:=FA hst
 have hsel:=Region.noSelect_spec hns
 obtain⟨p,o,d,u,h1,h2,h3,h4,h5,h6,rfl⟩:=hu
 obtain⟨k1,k2⟩:=GU hlz h1 h2
 have hown:=(hstat p o h2 (by omega) d h3).1
 intro q oq hq hc hl hf
 by_cases hqp:q=p
 ·subst hqp
  rw [h2]at hq;injection hq with hq;subst hq
  intro d' hd'
  obtain⟨u',m1,m2⟩:=h q o h2 hc hl hf d' hd'
  refine⟨u', .inl h1,fun w' hw'=>?_⟩
  rw [execOp_put o (fun cs b=>hsel q o cs b h2) a (some d) u (fun e he=>by injection he with he;exact he▸hown)]
  exact m2 w' hw'
 ·obtain⟨m1,m2⟩:=k2 d h3 q oq hq hqp
  exact(ct.of_put (ops:=ops) (fun cs b=>hsel q oq cs b hq) (fun e he=>by injection he with he;exact he▸m1 hc) (fun d' e hd' he=>by injection he with he;subst he;exact Ne.symm (m2 d' hd'))).2 (h q oq hq hc hl hf)
theorem S5.ups (hst:Nu ops pr=true) (hlz:LH ops lz=true) {L:Array Bool} {a a':Act} {w:World} (h:S5 P ops pr lz L a w) (hu:Ups P ops pr lz L w a a'):S5 P ops pr lz L a' w:=by
 induction hu with
 | refl=>exact h
 | step _ h1 ih=>exact ih.up1 hst hlz h1
theorem Ups.trans {L:Array Bool} {a b c:Act} {w:World} (h:Ups P ops pr lz L w a b) (h2:Ups P ops pr lz L w b c):Ups P ops pr lz L w a c:=by
 induction h2 with
 | refl=>exact h
 | step _ h1 ih=>exact ih.step h1
theorem Ups.put (hst:Nu ops pr=true) (hlz:LH ops lz=true) {i:Nat} {oi:Oper} {v:Value} (hi:ops[i]? =some oi) (hc:C4 oi ≠ 0) {L:Array Bool} (hdc:eD pr L) (hun:L.getD i false=false) {a b:Act} {w:World} (h:Ups P ops pr lz L w a b):Ups P ops pr lz (L.setIfInBounds i true) w (a.put oi.dst v) (b.put oi.dst v):=by
 obtain⟨hns,hp,hstat⟩:=FA hst
 have hsel:=Region.noSelect_spec hns
 obtain⟨_,d,hd⟩:=II hc
 induction h with
 | refl=>exact .refl
 | step _ hu ih=>
   refine ih.step ?_
   obtain⟨p,o,e,u,h1,h2,h3,h4,h5,h6,rfl⟩:=hu
   obtain⟨k1,k2⟩:=GU hlz h1 h2
   have hne:i ≠ p:=fun e=>by subst e;rw [hun]at h4;cases h4
   have hde:=(k2 e h3 i oi hi hne).2 d hd
   have hcN:J9 ops i ≠ 0:=by unfold J9;rw [hi];exact hc
   have hlook:d∉o.looksAt ops:=by
    rcases ((hstat p o h2 (by omega) e h3).2 i oi hi hne).1 with q | q | q
    ·have:=hdc p h4 i q
     rw [hun]at this;cases this
    ·exact absurd q.1 hc
    ·exact(q d hd).1
   refine⟨p,o,e,u,h1,h2,h3,getD_set_true h4,fun⟨k,hk,hk0,hpk⟩=>?_,?_,?_⟩
   ·rcases C1 hk with rfl | hk
    ·exact hcN hk0
    ·exact h5 ⟨k,hk,hk0,hpk⟩
   ·rw [execOp_put o (fun cs b=>hsel p o cs b h2) _ oi.dst v (fun e he=>by rw [hd]at he;injection he with he;exact he▸hlook)]
    exact h6
   ·rw [hd,eE _ (Ne.symm hde)]
theorem kx (hst:Nu ops pr=true) (hlz:LH ops lz=true) {i:Nat} {oi:Oper} {v:Value} (hi:ops[i]? =some oi) (hc:C4 oi ≠ 0) (hQ: ∀ c a w, ¬Q (.panic c) a w):
 ∀ (fuel:Nat) (L:Array Bool) (a:Act) (w:World),eD pr L→i∈Region.ready .any ops L→
   (∀ a'',Ups P ops pr lz (L.setIfInBounds i true) w (a.put oi.dst v) a''→S5 P ops pr lz (L.setIfInBounds i true) a'' w∧Dj P ops Q pr lz fuel (L.setIfInBounds i true) a'' w)→Dj P ops Q pr lz (fuel+1) L a w:=by
 obtain⟨hns,hp,hstat⟩:=FA hst
 have hsel:=Region.noSelect_spec hns
 obtain⟨hgd,d,hd⟩:=II hc
 have hown:=(hstat i oi hi hc d hd).1
 have hcN:J9 ops i ≠ 0:=by unfold J9;rw [hi];exact hc
 have wanted: ∀ a:Act,Region.wanted oi (yielded ops a.tmps)=true:=fun a=>EJ hgd _
 have nfrc: ∀ (L:Array Bool),eD pr L→i∈Region.ready .any ops L→ ¬lW ops pr i (L.setIfInBounds i true):=fun L hdc hr ⟨k,hk,hk0,hik⟩=>by
  obtain⟨_,hun,_⟩:=EN hp hdc hr
  rcases C1 hk with rfl | hk
  ·exact hcN hk0
  ·have:=hdc k hk i hik
   rw [HY hun]at this;cases this
 have self: ∀ (L:Array Bool) (a:Act) (w:World) (fuel:Nat),eD pr L→i∈Region.ready .any ops L→(∀ a'',Ups P ops pr lz (L.setIfInBounds i true) w (a.put oi.dst v) a''→S5 P ops pr lz (L.setIfInBounds i true) a'' w∧Dj P ops Q pr lz fuel (L.setIfInBounds i true) a'' w)→
  wpOp P ops Q i (fun a' w'=> ∀ a'',Ups P ops pr lz (L.setIfInBounds i true) w' a' a''→S5 P ops pr lz (L.setIfInBounds i true) a'' w'∧Dj P ops Q pr lz fuel (L.setIfInBounds i true) a'' w') a w:=fun L a w fuel hdc hr H=>by
  obtain⟨_,hun,_⟩:=EN hp hdc hr
  obtain⟨u,hz,hu⟩:=(H _ .refl).1 i oi hi hc (getD_tf' hun) (nfrc L hdc hr) d hd
  have hex:=hu w (.inr (Cv.refl w))
  have hex2:=hex
  rw [execOp_put oi (fun cs b=>hsel i oi cs b hi) a oi.dst v (fun e he=>by rw [hd]at he;injection he with he;exact he▸hown)]at hex
  have hy:YieldsIf P ops (fun w'=>w'=w) oi u a:= .inl ⟨wanted a,fun w' e=>by subst e;exact hex⟩
  refine hy.wpOp hi rfl ?_
  rcases hz with hz | hz
  ·intro a'' ha''
   refine H a'' (Ups.trans (.step .refl ?_) ha'')
   exact⟨i,oi,d,u,hz,hi,hd,getD_tf' hun,nfrc L hdc hr,hex2,by rw [hd,gX]⟩
  ·subst hz
   intro a'' ha''
   rw [hd,XG]at ha''
   exact H a'' (by rw [hd];exact ha'')
 intro fuel
 induction fuel with
 | zero=>
   intro L a w hdc hr H
   refine⟨fun h=>(by rw [h]at hr;cases hr),fun j hj=>?_⟩
   by_cases hji:j=i
   ·subst hji;exact self L a w 0 hdc hr H
   ·have:=ready_mono hj hji
    rw [(H _ .refl).2.1]at this
    cases this
 | succ fuel ih=>
   intro L a w hdc hr H
   refine⟨fun h=>(by rw [h]at hr;cases hr),fun j hj=>?_⟩
   by_cases hji:j=i
   ·subst hji;exact self L a w (fuel+1) hdc hr H
   ·have h1:=(H _ .refl).2.2 j (ready_mono hj hji)
    obtain⟨hjl,hjun,hjpre⟩:=EN hp hdc hj
    obtain⟨hil,hiun,hipre⟩:=EN hp hdc hr
    have hoj:ops[j]? =some ops[j]:=Array.getElem?_eq_getElem hjl
    have nij:i∉pr.getD j []:=fun q=>by
     have:=hjpre i q
     rw [HY hiun]at this;cases this
    have nji:j∉pr.getD i []:=fun q=>by
     have:=hipre j q
     rw [HY hjun]at this;cases this
    have hap:oi.apart ops ops[j]=true:=by
     rcases ((hstat i oi hi hc d hd).2 j _ hoj hji).2 with q | q | q
     ·exact absurd q nij
     ·exact absurd q nji
     ·exact q
    have hy:YieldsIf P ops (fun _=>False) oi v a:= .inl ⟨wanted a,fun _ h=>h.elim⟩
    have h2:=wpOp_putIf hoj hap (fun cs b=>hsel i oi cs b hi) (fun cs b=>hsel j _ cs b hoj) (fun c a w q=>absurd q (hQ c _ w)) hy h1
    have hdj:=hdc.set hp hj
    have hir:i∈Region.ready .any ops (L.setIfInBounds j true):=ready_mono hr (Ne.symm hji)
    have hiuj:(L.setIfInBounds j true).getD i false=false:=by rw [getD_set_ne false hji];exact HY hiun
    refine wpOp_mono (fun a' w' ⟨_,h34⟩=>?_) h2
    rw [Array.setIfInBounds_comm _ _ (Ne.symm hji)]at h34
    intro a3 ha3
    have H3: ∀ a'',Ups P ops pr lz ((L.setIfInBounds j true).setIfInBounds i true) w' (a3.put oi.dst v) a''→S5 P ops pr lz ((L.setIfInBounds j true).setIfInBounds i true) a'' w'∧Dj P ops Q pr lz fuel ((L.setIfInBounds j true).setIfInBounds i true) a'' w':=fun a'' ha''=>
     h34 a'' ((ha3.put hst hlz hi hc hdj hiuj).trans ha'')
    refine⟨fun p op hop hcp hpl hpf=>?_,ih (L.setIfInBounds j true) a3 w' hdj hir H3⟩
    have h3:=(H3 _ .refl).1
    have hne:p ≠ i:=fun e=>by
     subst e
     rw [hiuj]at hpl;cases hpl
    have nip:i∉pr.getD p []:=fun q=>by
     have:=hdj p hpl i q
     rw [hiuj]at this;cases this
    obtain⟨_,dp,hdp⟩:=II hcp
    have hpd: ∀ e,oi.dst=some e→e∉op.looksAt ops∧e ≠ dp:=by
     rcases ((hstat p op hop hcp dp hdp).2 i oi hi (Ne.symm hne)).1 with q | q | q
     ·exact absurd q nip
     ·exact absurd q.1 hc
     ·exact q
    have:=h3 p op hop hcp (getD_set_true hpl) (fun⟨k,hk,hk0,hpk⟩=>by
     rcases C1 hk with rfl | hk
     ·exact hcN hk0
     ·exact hpf ⟨k,hk,hk0,hpk⟩)
    exact(ct.of_put (ops:=ops) (fun cs b=>hsel p op cs b hop) (fun e he=>(hpd e he).1) (fun d' e hd' he=>by rw [hdp]at hd';injection hd' with hd';subst hd';exact(hpd e he).2)).1 this
theorem S5.take (hst:Nu ops pr=true) {i:Nat} {oi:Oper} {v:Value} (hi:ops[i]? =some oi) (hc:C4 oi ≠ 0) {L:Array Bool} {a:Act} {w:World} (hdc:eD pr L) (hr:i∈Region.ready .any ops L)
 (hS:S5 P ops pr lz L a w) (hW:ct P (i∈lz) oi (a.put oi.dst v) w):S5 P ops pr lz (L.setIfInBounds i true) (a.put oi.dst v) w:=by
 obtain⟨hns,hp,hstat⟩:=FA hst
 have hsel:=Region.noSelect_spec hns
 obtain⟨hil,hiun,hipre⟩:=EN hp hdc hr
 intro p op hop hcp hpl hpf
 rcases C1 hpl with rfl | hpl2
 ·rw [hi]at hop;injection hop with hop;subst hop
  exact hW
 ·clear hpl
  have hpl:=hpl2
  have hne:p ≠ i:=fun e=>by rw [e,HY hiun]at hpl2;cases hpl2
  have nip:i∉pr.getD p []:=fun q=>by
   have:=hdc p hpl i q
   rw [HY hiun]at this;cases this
  obtain⟨_,dp,hdp⟩:=II hcp
  have hpd: ∀ e,oi.dst=some e→e∉op.looksAt ops∧e ≠ dp:=by
   rcases ((hstat p op hop hcp dp hdp).2 i oi hi (Ne.symm hne)).1 with q | q | q
   ·exact absurd q nip
   ·exact absurd q.1 hc
   ·exact q
  refine(ct.of_put (ops:=ops) (fun cs b=>hsel p op cs b hop) (fun e he=>(hpd e he).1) (fun d' e hd' he=>by rw [hdp]at hd';injection hd' with hd';subst hd';exact(hpd e he).2)).2 ?_
  exact hS p op hop hcp hpl (fun⟨k,hk,hk0,hpk⟩=>hpf ⟨k,getD_set_true hk,hk0,hpk⟩)
theorem gY {o:Oper} {a:Act} {w:World} {K:Act→World→Prop} (h:o.wp P a w K Q):o.wp P a w (fun a' w'=>K a' w'∧ ∃ ds u,a'=({a with defers:=ds}:Act).put o.dst u) Q:=by
 unfold Oper.wp at *
 generalize (execOp a.eval o).run P w=r at *
 cases r with
 | ok n w'=>
   cases n<;>simp only [Oper.upon]at h ⊢ <;>first
    | exact⟨h,a.defers,_,rfl⟩
    | exact⟨h,_,_,rfl⟩
    | exact Calls.mono h (fun e w'' he=>by cases e<;>first | exact⟨he,a.defers,_,rfl⟩ | exact he)
    | exact Rows.mono h (fun _ _ he=>⟨he,a.defers,_,rfl⟩)
    | exact h
 | halt x w'=>cases x<;>simp only [Oper.upon]at h ⊢ <;>exact h
theorem Zm (hst:Nu ops pr=true) (hlz:LH ops lz=true) {j:Nat} {oj:Oper} (hj:ops[j]? =some oj) (hc:C4 oj=0) {L:Array Bool} {a:Act} {w:World} (hdc:eD pr L) (hrj:j∈Region.ready .any ops L) {fuel:Nat} (hS:S5 P ops pr lz L a w) {K:Act→World→Prop}
 (hw:if Region.wanted oj (yielded ops a.tmps)=true then oj.wp P a w K Q else K (a.put oj.dst undef) w)
 (hB: ∀ a' w',K a' w'→ ∀ p op,ops[p]? =some op→C4 op=1→L.getD p false=true→ ¬lW ops pr p (L.setIfInBounds j true)→(∀ w1,Cv w w1→(execOp a'.eval op).run P w1=(execOp a.eval op).run P w1)→(∀ d,op.dst=some d→a'.tmps.getD d Go.undef=a.tmps.getD d Go.undef)→ct P (p∈lz) op a w→ct P (p∈lz) op a' w')
 (hU: ∀ a' w' a'',K a' w'→mZ P ops pr lz (L.setIfInBounds j true) w' a' a''→K a'' w')
 (hK: ∀ a' w',K a' w'→(∀ d',oj.dst ≠ some d'→(∀ (p:Nat) (op:Oper),ops[p]? =some op→C4 op ≠ 0→op.dst ≠ some d')→a'.tmps.getD d' Go.undef=a.tmps.getD d' Go.undef)→S5 P ops pr lz (L.setIfInBounds j true) a' w'→Dj P ops Q pr lz fuel (L.setIfInBounds j true) a' w'):
 wpOp P ops Q j (fun a' w'=> ∀ a'',Ups P ops pr lz (L.setIfInBounds j true) w' a' a''→S5 P ops pr lz (L.setIfInBounds j true) a'' w'∧Dj P ops Q pr lz fuel (L.setIfInBounds j true) a'' w') a w:=by
 obtain⟨hns,hp,hstat⟩:=FA hst
 have hsel:=Region.noSelect_spec hns
 obtain⟨hjl,hjun,hjpre⟩:=EN hp hdc hrj
 have key: ∀ a' w',K a' w'→(∃ ds u,a'=({a with defers:=ds}:Act).put oj.dst u)→ ∀ a'',Ups P ops pr lz (L.setIfInBounds j true) w' a' a''→S5 P ops pr lz (L.setIfInBounds j true) a'' w'∧Dj P ops Q pr lz fuel (L.setIfInBounds j true) a'' w':=by
  intro a' w' hk ⟨ds,u,ha'⟩
  have hSS:S5 P ops pr lz (L.setIfInBounds j true) a' w':=by
   intro p op hop hcp hpl hpf
   have hne:p ≠ j:=fun e=>by subst e;rw [hj]at hop;injection hop with hop;subst hop;exact hcp hc
   have hpl:L.getD p false=true:=by
    rcases C1 hpl with e | q
    ·exact absurd e hne
    ·exact q
   have nip:j∉pr.getD p []:=fun q=>by
    have:=hdc p hpl j q
    rw [HY hjun]at this;cases this
   obtain⟨_,dp,hdp⟩:=II hcp
   have hpd: ∀ e,oj.dst=some e→e∉op.looksAt ops∧e ≠ dp:=by
    rcases ((hstat p op hop hcp dp hdp).2 j oj hj (Ne.symm hne)).1 with q | q | q
    ·exact absurd q nip
    ·exact absurd ⟨j,getD_tf' hjun,by unfold J9;rw [hj];exact hc,q.2⟩ hpf
    ·exact q
   have hold: ¬lW ops pr p L:=fun⟨k,hk,hk0,hpk⟩=>hpf ⟨k,getD_set_true hk,hk0,hpk⟩
   have hW:=hS p op hop hcp hpl hold
   have e1:execOp a'.eval op=execOp a.eval op:=by
    rw [ha']
    exact execOp_put op (fun cs b=>hsel p op cs b hop) ({a with defers:=ds}:Act) oj.dst u (fun e he=>(hpd e he).1)
   have e2: ∀ d,op.dst=some d→a'.tmps.getD d Go.undef=a.tmps.getD d Go.undef:=fun d hd=>by
    rw [hdp]at hd;injection hd with hd;subst hd
    rw [ha']
    exact Dz (a:=({a with defers:=ds}:Act)) (fun e he=>(hpd e he).2)
   by_cases h2:C4 op=2
   ·intro d hd
    obtain⟨u',m1,m2⟩:=hW d hd
    refine⟨u',by rw [e2 d hd];exact m1,fun w1 _=>?_⟩
    rw [e1]
    exact m2 w1 (.inl h2)
   ·have h1:C4 op=1:=by
     have:C4 op≤2:=by
      unfold C4
      split
      ·split
       ·exact Nat.le_refl _
       ·split<;>omega
      ·omega
     omega
    exact hB a' w' hk p op hop h1 hpl hpf (fun _ _=>by rw [e1]) e2 hW
  have hsl: ∀ d',oj.dst ≠ some d'→a'.tmps.getD d' Go.undef=a.tmps.getD d' Go.undef:=fun d' hd'=>by
   rw [ha']
   exact Dz (a:=({a with defers:=ds}:Act)) (fun e he q=>hd' (by rw [he,q]))
  intro a'' hu
  have hk':K a'' w'∧ ∀ d',oj.dst ≠ some d'→(∀ (p:Nat) (op:Oper),ops[p]? =some op→C4 op ≠ 0→op.dst ≠ some d')→a''.tmps.getD d' Go.undef=a.tmps.getD d' Go.undef:=by
   induction hu with
   | refl=>exact⟨hk,fun d' hd' _=>hsl d' hd'⟩
   | step _ h1 ih=>
     refine⟨hU _ _ _ ih.1 h1,fun d' hd' hp'=>?_⟩
     obtain⟨p,o,d,u,q1,q2,q3,q4,q5,q6,rfl⟩:=h1
     rw [Dz (fun e he q=>?_)]
     ·exact ih.2 d' hd' hp'
     ·injection he with he
      subst he;subst q
      exact hp' p o q2 (by rw [(GU hlz q1 q2).1];omega) q3
  have hS'':=hSS.ups hst hlz hu
  exact⟨hS'',hK a'' w' hk'.1 hk'.2 hS''⟩
 unfold wpOp
 simp only [hj]
 split
 ·rename_i hwt
  rw [if_pos hwt]at hw
  exact .inl (Oper.wp_mono (fun a' w' ⟨h1,h2⟩=>key a' w' h1 h2) (gY hw))
 ·rename_i hwt
  rw [if_neg hwt]at hw
  exact key _ _ hw ⟨a.defers,undef,rfl⟩
end
theorem Nv {P:Program} {F:Fr} {st:St} {a:Act} {w:World} {G:Ay} (h:R F st a w G) {d:Nat} {t:TypeId} {len:Nat} {ps:Array (Nat×Operand)} (hs:(Bh P st d t len ps.toList).1) {r:Value} {w':World}
 (hr:(Instr.buildSlice t len (ps.map fun(i,x)=>(i,a.eval x))).run P w= .ok r w'):Cv w w':=by
 unfold Bh at *
 split at hs
 ·rename_i E n by' hsel
  split at hs
  ·rename_i z hz
   split at hs
   ·rename_i cs hf
    obtain⟨h1,h2,h3,h4⟩:=hs
    obtain⟨i,zv,hu,hi,hzv,hsz,hby,hzs⟩:=EG hsel
    obtain⟨i',zv',hi',hzv',hc⟩:=G5 hz
    rw [hi]at hi';injection hi' with hi';subst hi'
    rw [hzv]at hzv';injection hzv' with hzv';subst hzv'
    have hzr:=Kv (Fn (w:=w) (G:=G) hc) (by omega) len
    obtain⟨arr',q1,q2⟩:=I4 hf (Ni (h.parts rfl h1)) hzr
    have q1':Instr.fill (fun i=>some (i*n,n)) ((Array.range (len*n)).map (zv.cells[· % zv.cells.size]!)) (ps.map fun(i,x)=>(i,a.eval x)).toList =some arr':=by
     rw [hzs]at q1 ⊢;simpa using q1
    rw [run_buildSlice' hu hi hzv hsz h3 h4 q1']at hr
    injection hr with _ hr
    subst hr
    exact GY _ _
   ·exact hs.elim
  ·exact hs.elim
 ·exact hs.elim
end Go.PL
namespace Go.PL
open Go Go.RowKit
section
variable {F:Fr} {st:St} {a:Act} {w:World} {G:Ay}
theorem VQ {w:World} {G:Ay}: ∀ {cs:List C} {vs:List Value} {k:Nat} {c:C},Ai w G cs vs→cs[k]? =some c→ ∃ v,vs[k]? =some v∧Ad w G c v
 | [],_,_,_,_,h=>by simp at h
 | _::_,[],_,_,h,_=>by simp only [Ai]at h
 | c::cs,v::vs,0,d,h,hk=>by
   simp only [Ai]at h
   simp only [List.getElem?_cons_zero,Option.some.injEq]at hk
   subst hk
   exact⟨v,rfl,h.1⟩
 | c::cs,v::vs,k+1,d,h,hk=>by
   simp only [Ai]at h
   obtain⟨u,h1,h2⟩:=VQ h.2 (by simpa using hk)
   exact⟨u,by simpa using h1,h2⟩
theorem R.nilsOwned (h:R F st a w G) {id:Ah} {e:As} (hl:st.lookD id=some e) {cs':List C} (hlen:cs'.length=e.cs.length) (hp:Ao cs'=true) {b:Nat} (hb:G.blk id=some b)
 (hc: ∀ k c,cs'[k]? =some c→(e.cs[k]? =some c∧Yu c=true)∨ ∃ E n,c= .isl E n 0 []∧w.cell? ⟨b,k,none⟩=some (.slice none 0 0)):
 ∃ G',R F (st.killP (Dm id) ((st.so.map (As.killP (Dm id))).map (setE id e.row cs'))) a w G'∧G'.own id=G.own id:=by
 obtain⟨hm,hid,hd,hmk,hpu,hpe,hi,E0,n0,len0,hr0⟩:=h.deepRow hl
 let G':Ay:=⟨fun i=>if Dm id i=true then none else G.blk i,fun i=>if Dm id i=true then some (.slice none 0 0)else G.own i,fun b=>F.av b∨ ∃ i,(if Dm id i=true then none else G.blk i)=some b⟩
 have hag: ∀ i,Dm id i=false→G'.blk i=G.blk i∧G'.own i=G.own i:=fun i q=>by
  simp only [G',q]
  exact⟨rfl,rfl⟩
 have hno:Dm id id=false:=by
  cases q:Dm id id with
  | false=>rfl
  | true=>rw [Hi q]at hmk;cases hmk
 have t:Turn F (Dm id) (fun _=>false) G G' w w:=Hg h G' rfl hag (fun i b hib=>by
  simp only [G']at hib
  split at hib
  ·cases hib
  ·exact⟨i,hib⟩) (fun i j b hib hjb=>by
  simp only [G']at hib hjb
  split at hib
  ·cases hib
  ·split at hjb
   ·cases hjb
   ·exact h.inj _ _ b hib hjb)
 obtain⟨E1,n1,len1,v1,cap1,cur1,g1,g2,g3,g4,g5,g6,g7,g8,g9⟩:=h.deepRel hl hb
 obtain⟨us,r1,r2⟩:=g9.list
 have hnoA: ∀ cs:List C,Ao cs=true→HK (fun i=>BE i cs=true) G G':=fun cs hp i hi'=>absurd (show BE i cs=true from hi') (by rw [AG i cs hp];simp)
 have hrow:Ak w G' cs' b 0:=by
  have:=gw (f:=_root_.id) (cs:=cs') (b:=b) (o:=0) (w:=w) (G:=G') (fun k c hk=>by
   rcases hc k c hk with ⟨q1,q2⟩ | ⟨E,n,q1,q2⟩
   ·obtain⟨u,k1,k2⟩:=VQ (Ai.mono t.keeps _ _ (hnoA _ hpe) r1) q1
    exact⟨u,by rw [Nat.zero_add];have:=r2 k u k1;rwa [Nat.zero_add]at this,k2⟩
   ·refine⟨.slice none 0 0,by rw [Nat.zero_add];exact q2,?_⟩
    rw [q1]
    simp only [_root_.id,Ad]
    rfl)
  rwa [List.map_id]at this
 have hrel:AX w G' ⟨id,e.row,cs',true⟩:=by
  unfold AX
  rw [g1]
  exact⟨by rw [hlen];exact g2,v1,by rw [(hag id hno).2];exact g3, .inr ⟨b,cap1,cur1,g4,by rw [(hag id hno).1];exact hb,g5,g6,g7,g8,hrow⟩⟩
 have hin:Em w G' ⟨id,e.row,cs',true⟩:=by
  intro j E2 n2 len2 cs2 hj
  rcases hc j _ hj with ⟨_,q2⟩ | ⟨E,n,q1,q2⟩
  ·cases q2
  ·injection q1 with q1 q3 q4 q5
   subst q1 q3 q4 q5
   have ho:G'.own (BH j id)=some (.slice none 0 0)∧G'.blk (BH j id)=none:=by
    have:Dm id (BH j id)=true:=by rw [Hh];simp
    exact⟨by simp [G',this],by simp [G',this]⟩
   refine⟨rfl,?_,b,_,by rw [(hag id hno).1];exact hb,q2,ho.1⟩
   unfold AX
   exact⟨by simp,_,ho.1, .inl ⟨none,rfl,rfl,ho.2⟩⟩
 have hents:=t.ents h hl (fun _=>true) (fun d hd' _ hne'=>by
  have h1:Dm id d.id=false:=by
   cases q:Dm id d.id with
   | false=>rfl
   | true=>have:=Hi q;rw [(h.deep d hd').1]at this;cases this
  exact⟨h1,rfl,fun _ k=>⟨by rw [Hh];simpa using hne',rfl⟩⟩) (by rw [g1];rfl) hrel hin hp
 rw [HU]at hents
 exact⟨G',t.killed h _ hents.1 hents.2.1 hents.2.2.1 hents.2.2.2,(hag id hno).2⟩
end
end Go.PL
namespace Go.PL
open Go Go.RowKit
theorem R.remade {F:Fr} {st:St} {a:Act} {w w':World} {G:Ay} (h:R F st a w G) {id:Ah} {e:As} (he:st.look id=some e) {E n len len':Nat}
 {v v':Value} {xs us:List Value} {cs:List C} (hq:Ao cs=true) (hob:v.ownBlock=G.blk id) (h2:Ai w G cs us)
 (hold:w.ownsRow 0 E n v len xs) (hnew:w'.ownsRow 0 E n v' len' us) (hg:w.grownBy w' v.ownBlock) (hfr:v'.ownBlock=v.ownBlock∨ ∀ b,v'.ownBlock=some b→w.heap.size≤b):
 ∃ G',R F (st.new ⟨id,some (E,n,len'),cs,true⟩) a w' G'∧G'.own id=some v'∧v'.oneCell'=true:=by
 obtain⟨hm,hid⟩:=A0 he
 have hblk: ∀ b,b<w.heap.size→G.blk id ≠ some b→w'.heap[b]? =w.heap[b]? :=fun b hb hne=>hg.block b hb (by rw [hob];exact fun q=>hne q.symm)
 have hn: ∀ b,v'.ownBlock=some b→w.heap.size≤b∨(G.blk id=some b∧BX w w' b):=by
  intro b hb
  rcases hfr with q | q
  ·refine .inr ⟨by rw [←hob, ←q];exact hb,?_⟩
   have hb2:v.ownBlock=some b:=by rw [←q];exact hb
   intro cur T fz hc
   rcases hnew.2 with ⟨r,_⟩ | ⟨g,cap,cur',r,_,r2,_⟩
   ·rw [r]at hb;cases hb
   ·rw [r]at hb
    simp only [Value.ownBlock,Option.some.injEq]at hb
    subst hb
    rcases hold.2 with ⟨r3,_⟩ | ⟨g3,cap3,cur3,r3,_,r4,_⟩
    ·rw [r3]at hb2;cases hb2
    ·rw [r3]at hb2
     simp only [Value.ownBlock,Option.some.injEq]at hb2
     subst hb2
     rw [r4]at hc
     injection hc with hc
     injection hc with _ hc _
     subst hc
     exact⟨_,_,r2⟩
  ·exact .inl (q b hb)
 have hlt: ∀ b,v'.ownBlock=some b→b<w'.heap.size:=fun b hb=>(hnew.lt b hb).2
 have hone:v'.oneCell'=true:=by
  rcases hnew.2 with ⟨q,_⟩ | ⟨g,cap,cur,q,_⟩<;>rw [q]<;>rfl
 refine⟨BS F G id v'.ownBlock (some v'),?_,by simp [BS],hone⟩
 have hk:=h.keeps id v'.ownBlock (some v') hg.size hblk hn
 have hkill:=FL (row:=some (E,n,len')) (pu:=true) h hk (fun _=>hq) h2
 refine h.set ⟨id,some (E,n,len'),cs,true⟩ v'.ownBlock (some v') ⟨hg.os,hg.tape,hg.output⟩ hg.size hblk ?_ (fun b hb=>⟨hn b hb,hlt b hb⟩) (fun _=>hq) ?_
 ·intro b hb hold2
  refine hblk b (Nat.lt_of_lt_of_le hb h.hsize) (fun q=>?_)
  rcases h.new id b q with q2 | q2
  ·omega
  ·exact hold2 q2
 ·have hl2:=h2.length
  have hln:=hnew.1
  refine GZ (As.kill_row _ _) ⟨by rw [JS];exact hl2.trans hln,v',by simp [BS,As.kill_id],?_⟩
  rcases hnew.2 with ⟨q,h0⟩ | ⟨g,cap,cur,q,_,q2,q3,q4,q5,q6⟩
  ·exact .inl ⟨none,q,h0,by simp [BS,q,Value.ownBlock,As.kill_id]⟩
  ·refine .inr ⟨g,cap,cur,q,by simp [BS,q,Value.ownBlock,As.kill_id],q2,q3,q4,q5,?_⟩
   refine Ak.of_list (vs:=us) hkill (By q2 (rest:=cur.toList.drop (len'*n)) (by rw [←q6,List.take_append_drop]))
theorem Eg.clip {P:Program} {I:World→Prop} {o:Oper} {st:St} {K:St→Prop} {t:TypeId} {x:Operand} {k k':IntKind} {len:Nat} {cs:List C} (E n d:Nat)
 (ho:o.op= .slice t x none (some (.const (.int k 0))) (some (.const (.int k' 0)))) (hd:o.dst=some d)
 (hK:K ((st.new ⟨d::st.pre,some (E,n,0),[],true⟩).put (some d) (.c (.osl (d::st.pre)))))
 (hs:CZ P t=some (E,n):=by kernel_rfl) (hx:st.ev x= .c (.sl len cs):=by kernel_rfl):Eg P I o st K:=by
 intro F a w G Q hI hR
 obtain⟨hu,inf,hi,hsz⟩:=Dp hs
 have hxv:=hR.ev x
 rw [hx]at hxv
 simp only [Ab,Ad]at hxv
 obtain⟨_,p,cap,he,_⟩:=hxv
 have hb:(Instr.sliceBounds true len cap none (some (.int k 0)) (some (.int k' 0))).run P w= .ok (0,0,0) w:=by
  have e1:=fun code=>run_sliceBound' (P:=P) w k 0 0 code (by omega) (by omega)
  have e2:=fun code=>run_sliceBound' (P:=P) w k' 0 cap code (by omega) (by omega)
  simp [Instr.sliceBounds,e1,e2]
 have hrun:(execOp a.eval o).run P w= .ok (.value (.slice p 0 0)) w:=by
  have hc: ∀ u,a.eval (.const u)=u:=fun _=>rfl
  simp [execOp,ho,he,hc,Instr.sliceAt,Instr.slice,Sem.run_bind,run_underlying hu,hb,sizeOf,typeInfo,program,Sem.run,hi,hsz]
 refine AM hrun ⟨_,BS F G (d::st.pre) none (some (.slice p 0 0)),hK,?_⟩
 rw [hd]
 exact R.put (d:=some d) (hR.clipRow (d::st.pre) E n p) (by simp only [Ab,Ad,BS,if_true];exact⟨trivial,rfl⟩)
def OT (P:Program) (f:FuncId) (E:TypeId):Prop:=
 ∀ (w:World) (v:Value) (n i vb m vc:Nat) (xs us:List Value) (cur:Array Value) (T:TypeId) (row:Option Nat),
   (w.ownsRow 0 E 1 v n xs∧row=v.ownBlock∨ ∃ p,v= .slice (some p) 0 0∧n=0∧xs=[]∧row=none)→i≤n→0<m→(∀ u∈xs,u.oneCell'=true)→(∀ u∈us,u.oneCell'=true)→us.length=m→(n+m)*8≤140737488355328→m≤vc→cur.size=vc→
   row ≠ some vb→w.heap[vb]? =some (.cells cur T (0,0))→cur.toList.take m=us→
   Calls P f #[v, .int .i64 i, .slice (some ⟨vb,0,none⟩) m vc] w fun e w'=> ∃ v',e= .returned v'∧w'.ownsRow 0 E 1 v' (n+m) (xs.take i++us++xs.drop i)∧
    w.grownBy w' row∧(v'.ownBlock=row∨ ∀ b,v'.ownBlock=some b→w.heap.size≤b)
theorem Eg.ins {P:Program} {I:World→Prop} {o:Oper} {st:St} {K:St→Prop} {f:FuncId} {x y z:Operand} {r rv:Ah} {E len m:Nat} {cs ds:List C} {i:Int} (hk:B2 o.op= .call f [x,y,z]) (hent:ent P f=true) (hins:OT P f E)
 (hx: ∀ Fr a w G,R Fr st a w G→Ab w G (.c (.osl r)) (a.eval x)) (hy: ∀ Fr a w G,R Fr st a w G→Ab w G (.c (.int .i64 i)) (a.eval y)) (hz: ∀ Fr a w G,R Fr st a w G→Ab w G (.c (.osl rv)) (a.eval z))
 (hl:st.look r=some ⟨r,some (E,1,len),cs,true⟩) (hl2:st.look rv=some ⟨rv,some (E,1,m),ds,true⟩) (hne:r ≠ rv) (hi:0≤i∧i≤(len:Nat)) (hm:0<m) (hbig:(len+m)*8≤140737488355328)
 {s1:St} (hls:Ck (st.new ⟨r,some (E,1,len+m),cs.take i.toNat++ds++cs.drop i.toNat,true⟩) s1) (hK:K (s1.put o.dst (.c (.osl r)))):Eg P I o st K:=by
 intro F a w G Q hI hR
 have hr:=Ml (a:=a) hk hent w
 unfold Oper.wp Oper.upon
 rw [hr]
 obtain⟨hm1, -⟩:=A0 hl
 obtain⟨hm2, -⟩:=A0 hl2
 have hxv:=hx F a w G hR
 have hyv:=hy F a w G hR
 have hzv:=hz F a w G hR
 simp only [Ab,Ad]at hxv hyv hzv
 obtain⟨v,xs,k1,k2,k3,k4⟩:=EF (e:=⟨r,some (E,1,len),cs,true⟩) rfl (hR.store _ hm1)
 obtain⟨u,us,q1,q2,q3,q4⟩:=EF (e:=⟨rv,some (E,1,m),ds,true⟩) rfl (hR.store _ hm2)
 have hxe:a.eval x=v:=by have:=hxv.1;rw [k1]at this;injection this with this;exact this.symm
 have hze:a.eval z=u:=by have:=hzv.1;rw [q1]at this;injection this with this;exact this.symm
 have hye:a.eval y= .int .i64 i:=hyv
 have harg:([x,y,z].map a.eval).toArray = #[v, .int .i64 i,u]:=by simp [hxe,hye,hze]
 rw [harg]
 obtain⟨j,hj⟩: ∃ j:Nat,i=(j:Int):=⟨i.toNat,by omega⟩
 subst hj
 simp only [Int.toNat_natCast]at hls
 rcases q4 with ⟨q4,q5⟩ | ⟨p,_,q0,_⟩
 rotate_left
 ·omega
 rcases q4.2 with ⟨_,q0⟩ | ⟨vb,vc,cur,rfl,_,c1,c2,c3,c4,c5⟩
 ·omega
 simp only [Nat.mul_one]at c4 c5
 have hrv:G.blk rv=some vb:=q5.symm
 have hlx:xs.length=len:=by
  have h5:cs.length=len*1:=by have:=hR.store _ hm1;simp only [AX]at this;exact this.1
  have h6:cs.length=xs.length:=k3.length
  omega
 have hlu:us.length=m:=by have:=q4.1;omega
 have hold:(w.ownsRow 0 E 1 v len xs∧G.blk r=v.ownBlock∨ ∃ p,v= .slice (some p) 0 0∧len=0∧xs=[]∧G.blk r=none):=by
  rcases k4 with ⟨k4,k5⟩ | ⟨p,k4,k5,k6,k7⟩
  ·exact .inl ⟨k4,k5.symm⟩
  ·exact .inr ⟨p,k4,k5,k6,k7⟩
 refine(hins w v len j vb m vc xs us cur E (G.blk r) hold (by omega) hm (Ai.one k3) (Ai.one q3) hlu hbig c2 c4 (fun q=>hne (hR.inj _ _ _ q hrv)) c1 c5).mono fun e w' ⟨v',he,h1,h2,h3⟩=>?_
 subst he
 have hrel:Ai w G (cs.take j++ds++cs.drop j) (xs.take j++us++xs.drop j):=((k3.take j).append q3).append (k3.drop j)
 have hp:Ao (cs.take j++ds++cs.drop j)=true:=by
  have p1:Ao cs=true:=hR.pures _ hm1 rfl
  have p2:Ao ds=true:=hR.pures _ hm2 rfl
  rw [Cc,List.all_eq_true]at p1 p2 ⊢
  intro c hc
  rcases List.mem_append.1 hc with hc | hc
  ·rcases List.mem_append.1 hc with hc | hc
   ·exact p1 c (List.mem_of_mem_take hc)
   ·exact p2 c hc
  ·exact p1 c (List.mem_of_mem_drop hc)
 have fin: ∃ G',R F (st.new ⟨r,some (E,1,len+m),cs.take j++ds++cs.drop j,true⟩) a w' G'∧G'.own r=some v'∧v'.oneCell'=true:=by
  rcases hold with ⟨g1,g2⟩ | ⟨p,g1,g2,g3,g4⟩
  ·exact R.remade hR hl hp g2.symm hrel g1 h1 (by rw [←g2];exact h2) (by rw [←g2];exact h3)
  ·rw [g4]at h2 h3
   exact R.remade hR hl (v:= .slice none 0 0) (len:=0) (xs:=[]) hp (by rw [g4];rfl) hrel ⟨by simp, .inl ⟨rfl,rfl⟩⟩ h1 h2 h3
 obtain⟨G',g1,g2,g3⟩:=fin
 exact⟨_,G',hK,(g1.less hls).put (by simp only [Ab,Ad];exact⟨g2,g3⟩)⟩
end Go.PL
namespace Go.PL
open Go Go.RowKit
variable {T:Be}
inductive VT where
 | k (kd:Kd)
 | s (E:Nat)
 | f (g:FuncId)
def DA (T:Be):VT→Type
 | .k kd=>KA T.den kd
 | .s E=>T.den E
 | .f _=>Unit
def aL (T:Be):(k:Kd)→KA T.den k
 | .int _=>(default:Int)
 | .bool =>(default:Bool)
 | .str =>(default:List UInt8)
 | .lst E=>(default:List (T.den E))
def jC (T:Be):(t:VT)→DA T t
 | .k kd=>aL T kd
 | .s E=>(T.inh E).default
 | .f _=>()
def JD:(t:VT)→DA T t→DV T
 | .k kd,x=> .c (.k kd x)
 | .s E,x=> .agg (VM E x)
 | .f g,_=> .c (.c (.fn g))
def DB:(t:VT)→DA T t→V
 | .k kd,x=> .c (Bd T.enc kd x)
 | .s E,x=> .agg (T.enc E x)
 | .f g,_=> .c (.fn g)
theorem KG (t:VT) (x:DA T t):(JD t x).toV =DB t x:=by
 cases t with
 | k kd=>simp only [JD,DV.toV,DC.toC,DB]
 | s E=>exact congrArg V.agg (E3 E x)
 | f g=>simp only [JD,DV.toV,DC.toC,DB]
theorem MB {H:At T} {nx:Nat} (t:VT) (x:DA T t):(JD t x).ok H nx:=by
 cases t with
 | k kd=>simp only [JD,DV.ok,DC.ok]
 | s E=>simp only [JD,DV.ok];exact Jc E x
 | f g=>simp only [JD,DV.ok,DC.ok]
def mm:DV T→Option (DC T)
 | .c x=>some x
 | _=>none
def mn:DV T→Option (List (DC T))
 | .agg cs=>some cs
 | _=>none
def VR (kd:Kd) (v:DV T):Option (KA T.den kd):=match mm v with
 | some x=>Gv false kd x
 | none=>none
def castVs' (E:Nat) (v:DV T):Option (T.den E):=match mn v with
 | some cs=>dl false E cs
 | none=>none
def Zn (g:FuncId):DV T→Option Unit
 | .c (.c (.fn g'))=>match Nat.beq g' g with
   | true=>some ()
   | false=>none
 | _=>none
def eF:(t:VT)→DV T→Option (DA T t)
 | .k kd,v=>VR kd v
 | .s E,v=>castVs' E v
 | .f g,v=>Zn g v
theorem Ru {v:DV T} {x:DC T} (h:mm v=some x):v= .c x:=by
 unfold mm at h
 split at h
 ·injection h with h;rw [h]
 ·cases h
theorem Rv {v:DV T} {x:List (DC T)} (h:mn v=some x):v= .agg x:=by
 unfold mn at h
 split at h
 ·injection h with h;rw [h]
 ·cases h
theorem aM {kd:Kd} {v:DV T} {x:KA T.den kd} (h:VR kd v=some x):v.toV= .c (Bd T.enc kd x):=by
 unfold VR at h
 split at h
 ·rename_i y hy
  rw [Ru hy]
  simp only [DV.toV,(Co h).2 rfl]
 ·cases h
theorem gZ {E:Nat} {v:DV T} {x:T.den E} (h:castVs' E v=some x):v.toV= .agg (T.enc E x):=by
 unfold castVs' at h
 split at h
 ·rename_i y hy
  rw [Rv hy]
  simp only [DV.toV,(F2 h).2 rfl]
 ·cases h
theorem hH {g:FuncId} {v:DV T} {x:Unit} (h:Zn g v=some x):v.toV= .c (.fn g):=by
 unfold Zn at h
 split at h
 ·split at h
  ·rename_i hb
   have:=Nat.eq_of_beq_eq_true hb
   subst this
   simp only [DV.toV,DC.toC]
  ·cases h
 ·cases h
theorem Rx {t:VT} {v:DV T} {x:DA T t} (h:eF t v=some x):v.toV=DB t x:=by
 cases t with
 | k kd=>exact aM h
 | s E=>exact gZ h
 | f g=>exact hH h
def XS (T:Be):List VT→Type
 | []=>Unit
 | t::ts=>DA T t×XS T ts
def EO:(ts:List VT)→XS T ts→List V
 | [],_=>[]
 | t::ts,x=>DB t x.1::EO ts x.2
def Nw:(ts:List VT)→List (DV T)→Option (XS T ts)
 | [],[]=>some ()
 | t::ts,v::vs=>match eF t v,Nw ts vs with
   | some x,some y=>some (x,y)
   | _,_=>none
 | _,_=>none
theorem OU: ∀ {ts:List VT} {vs:List (DV T)} {x:XS T ts},Nw ts vs=some x→AO vs=EO ts x
 | [],[],x,_=>by simp only [AO,EO]
 | [],_::_,_,h=>by simp [Nw]at h
 | _::_,[],_,h=>by simp [Nw]at h
 | t::ts,v::vs,x,h=>by
   unfold Nw at h
   split at h
   ·rename_i a b h1 h2
    injection h with h;subst h
    simp only [AO,EO,Rx h1,OU h2]
   ·cases h
def RT (T:Be):List VT→Type
 | []=>Unit
 | [t]=>DA T t
 | t::u::ts=>DA T t×RT T (u::ts)
def jD (T:Be):(ts:List VT)→RT T ts
 | []=>()
 | [t]=>jC T t
 | t::u::ts=>(jC T t,jD T (u::ts))
instance (ts:List VT):Inhabited (RT T ts):=⟨jD T ts⟩
def Cf:(ts:List VT)→RT T ts→List (DV T)
 | [],_=>[]
 | [t],x=>[JD t x]
 | t::u::ts,x=>JD t x.1::Cf (u::ts) x.2
def Ny:(ts:List VT)→RT T ts→DV T
 | [],_=> .tup []
 | [t],x=>JD t x
 | t::u::ts,x=> .tup (Cf (t::u::ts) x)
def B7:(ts:List VT)→RT T ts→List V
 | [],_=>[]
 | [t],x=>[DB t x]
 | t::u::ts,x=>DB t x.1::B7 (u::ts) x.2
def GG:(ts:List VT)→RT T ts→V
 | [],_=> .tup []
 | [t],x=>DB t x
 | t::u::ts,x=> .tup (B7 (t::u::ts) x)
theorem Ry: ∀ (ts:List VT) (x:RT T ts),AO (Cf ts x)=B7 ts x
 | [],_=>by simp only [Cf,AO,B7]
 | [t],x=>congrArg (fun z=>[z]) (KG t x)
 | t::u::ts,x=>by simp only [Cf,AO,B7,KG,Ry (u::ts)]
theorem Ka: ∀ (ts:List VT) (x:RT T ts),(Ny ts x).toV =GG ts x
 | [],_=>by simp only [Ny,DV.toV,GG,AO]
 | [t],x=>KG t x
 | t::u::ts,x=>by simp only [Ny,DV.toV,GG,Ry]
theorem Nz {H:At T} {nx:Nat}: ∀ (ts:List VT) (x:RT T ts),Cn H nx (Cf ts x)
 | [],_=>by simp only [Cf,Cn]
 | [t],x=>by simp only [Cf,Cn,and_true];exact MB t x
 | t::u::ts,x=>by simp only [Cf,Cn,MB,Nz (u::ts),and_self]
theorem KH {H:At T} {nx:Nat}: ∀ (ts:List VT) (x:RT T ts),(Ny ts x).ok H nx
 | [],_=>by simp only [Ny,DV.ok,Cn]
 | [t],x=>MB t x
 | t::u::ts,x=>by simp only [Ny,DV.ok];exact Nz _ _
def VS:Kd→Bool
 | .lst _=>false
 | _=>true
def NA (T:Be):VT→Bool
 | .k kd=>VS kd
 | .s E=>(T.ks E).all VS
 | .f _=>true
theorem Rz {den:Nat→Type} {enc: ∀ E,den E→List C}: ∀ (ks:List Kd) (y:DK den ks),(Bv enc ks y).all C.flat=ks.all VS
 | [],_=>rfl
 | k::ks,y=>by
   simp only [Bv,List.all_cons,Rz ks]
   cases k<;>rfl
theorem LI (t:VT) (x:DA T t):(DB t x).flat =NA T t:=by
 cases t with
 | k kd=>cases kd<;>rfl
 | s E=>
   show (T.enc E (show T.den E from x)).all C.flat=(T.ks E).all VS
   rw [←T.encok,Rz]
 | f g=>rfl
theorem OV: ∀ (ts:List VT) (x:RT T ts),Ii (B7 ts x)=ts.all (NA T)
 | [],_=>by simp [B7,Ii]
 | [t],x=>by simp only [B7,Ii,List.all_cons,List.all_nil,Bool.and_true];exact LI t x
 | t::u::ts,x=>by simp only [B7,Ii,LI,OV (u::ts),List.all_cons]
theorem IJ: ∀ (ts:List VT) (x:RT T ts),(GG ts x).flat =ts.all (NA T)
 | [],_=>by simp [GG,V.flat,Ii]
 | [t],x=>by simp only [GG,List.all_cons,List.all_nil,Bool.and_true];exact LI t x
 | t::u::ts,x=>by simp only [GG,V.flat,OV]
def Hx (m:Nat):(k:Kd)→KA T.den k→List OE
 | .lst E,l=>match m with
   | 1=>[⟨false,E,T.sz E,List.length l,List.flatMap (T.enc E) l⟩]
   | 2=>[⟨true,E,T.sz E,List.length l,Aw T E (List.length l:Nat) 0 l⟩]
   | _=>[]
 | _,_=>[]
def JI (m:Nat):Kd→Nat
 | .lst _=>match m with
   | 1=>1
   | 2=>1
   | _=>0
 | _=>0
def K4 (m j:Nat) (k:Kd) (x:KA T.den k):PC:=match JI m k with
 | 0=> .c (Bd T.enc k x)
 | _=> .o j
def Pn (m:Nat) (id:Ah) (k:Kd):List Ah:=match JI m k with
 | 0=>[]
 | _=>match m with
   | 2=>[1000003::id]
   | _=>[id]
def B8:List Nat→(ks:List Kd)→DK T.den ks→List OE
 | m::ms,k::ks,x=>Hx m k x.1++B8 ms ks x.2
 | _,_,_=>[]
def Ek:List Nat→Nat→(ks:List Kd)→DK T.den ks→List PC
 | m::ms,j,k::ks,x=>K4 m j k x.1::Ek ms (j+JI m k) ks x.2
 | [],j,k::ks,x=> .c (Bd T.enc k x.1)::Ek [] j ks x.2
 | _,_,[],_=>[]
def Hy:List Nat→Nat→Ah→List Kd→List Ah
 | m::ms,i,suf,k::ks=>Pn m (i::suf) k++Hy ms (i+1) suf ks
 | _,_,_,_=>[]
def El:List Nat→List Kd→Nat
 | m::ms,k::ks=>JI m k+El ms ks
 | _,_=>0
def C5 (T:Be):VT→List Kd
 | .k kd=>[kd]
 | .s E=>T.ks E
 | .f _=>[]
def JJ:(t:VT)→DA T t→DK T.den (C5 T t)
 | .k _,x=>(x,())
 | .s E,x=>T.un E x
 | .f _,_=>()
def Gz (m:List Nat) (j:Nat):(t:VT)→DA T t→PP
 | .k kd,x=> .c (K4 (m.headD 0) j kd x)
 | .s E,x=> .a (Ek m j (T.ks E) (T.un E x))
 | .f g,_=> .c (.c (.fn g))
def CR:List (List Nat)→(ts:List VT)→RT T ts→List OE
 | m::_,[t],x=>B8 m (C5 T t) (JJ t x)
 | m::ms,t::u::ts,x=>B8 m (C5 T t) (JJ t x.1)++CR ms (u::ts) x.2
 | _,_,_=>[]
def BL:List (List Nat)→Nat→(ts:List VT)→RT T ts→List PP
 | m::_,j,[t],x=>[Gz m j t x]
 | [],j,[t],x=>[Gz [] j t x]
 | m::ms,j,t::u::ts,x=>Gz m j t x.1::BL ms (j+El m (C5 T t)) (u::ts) x.2
 | [],j,t::u::ts,x=>Gz [] j t x.1::BL [] j (u::ts) x.2
 | _,_,[],_=>[]
def P5 (T:Be):List (List Nat)→Nat→Ah→List VT→List Ah
 | m::ms,p,suf,t::ts=>Hy m 0 (p::suf) (C5 T t)++P5 T ms (p+1) suf ts
 | _,_,_,_=>[]
structure CE (T:Be) (P:Program) (I:World→Prop) where
 f:FuncId
 ps:List VT
 rs:List VT
 run:XS T ps→Option (RT T rs)
 ok: ∀ x r,run x=some r→CC P I f (EO ps x) (· =GG rs r)
 ow:List (List Nat):=[]
 okx:ow ≠ []→ ∀ x r,run x=some r→Je P I f (EO ps x) (CR ow rs r) (BL ow 0 rs r):=by exact fun h=>absurd rfl h
 ins:Option TypeId:=none
 insok: ∀ E,ins=some E→OT P f E:=by exact fun _ h=>nomatch h
def LJ {P:Program} {I:World→Prop} (f:FuncId) (ws:List (DV T)):List (CE T P I)→Option ((e:CE T P I)×XS T e.ps)
 | []=>none
 | e::r=>match Nat.beq e.f f with
   | true=>match Nw e.ps ws with
     | some x=>some ⟨e,x⟩
     | none=>LJ f ws r
   | false=>LJ f ws r
theorem EP {P:Program} {I:World→Prop} {f:FuncId} {ws:List (DV T)}: ∀ {l:List (CE T P I)} {e:CE T P I} {x:XS T e.ps},LJ f ws l=some ⟨e,x⟩→e.f=f∧AO ws=EO e.ps x
 | [],_,_,h=>by cases h
 | a::r,e,x,h=>by
   unfold LJ at h
   split at h
   ·rename_i hb
    split at h
    ·rename_i y hy
     injection h with h
     injection h with h1 h2
     subst h1
     have h2:=eq_of_heq h2
     subst h2
     exact⟨Nat.eq_of_beq_eq_true hb,OU hy⟩
    ·exact EP h
   ·exact EP h
def VU (st:Ag T) (c:DC T):Option (DC T):=match HX c with
 | some id=>match Db st id with
   | some ⟨E,l⟩=>some (.k (.lst E) l)
   | none=>none
 | none=>some (Rn c)
def RA (st:Ag T):List (DC T)→Option (List (DC T))
 | []=>some []
 | c::cs=>match VU st c,RA st cs with
   | some d,some ds=>some (d::ds)
   | _,_=>none
def VV (st:Ag T):DV T→Option (DV T)
 | .c x=>match VU st x with
   | some y=>some (.c y)
   | none=>none
 | .agg cs=>match RA st cs with
   | some ds=>some (.agg ds)
   | none=>none
 | _=>none
def Jf (st:Ag T):List (DV T)→Option (List (DV T))
 | []=>some []
 | v::vs=>match VV st v,Jf st vs with
   | some d,some ds=>some (d::ds)
   | _,_=>none
def aO (c:DC T):List Ah:=match HX c with
 | some id=>[id]
 | none=>[]
def UR:List (DC T)→List Ah
 | []=>[]
 | c::cs=>aO c++UR cs
def US:DV T→List Ah
 | .c x=>aO x
 | .agg cs=>UR cs
 | _=>[]
def MC:List (DV T)→List Ah
 | []=>[]
 | v::vs=>US v++MC vs
theorem Jg {c:DC T} (h:HX c=none): ∀ id,c.toC ≠ .osl id:=fun i he=>by
 cases c with
 | c x=>simp only [DC.toC]at he;subst he;simp [HX]at h
 | k kd x=>cases kd<;>simp [DC.toC,Bd]at he
 | ip=>simp [DC.toC]at he
 | rp=>simp [DC.toC]at he
 | ap=>simp [DC.toC]at he
 | bs=>simp [DC.toC]at he
 | clo b f cs=>cases b<;>simp [DC.toC]at he
theorem OW {st:Ag T} {c d:DC T} (h:VU st c=some d):HS st.toSt c.toC=d.toC:=by
 unfold VU at h
 split at h
 ·rename_i id ho
  have:=Dy ho
  subst this
  split at h
  ·rename_i E l hr
   injection h with h;subst h
   simp only [DC.toC,HS,(BF hr).1,Bd,if_true]
  ·cases h
 ·rename_i ho
  injection h with h;subst h
  rw [LG]
  have:=Jg ho
  cases hc:c.toC<;>simp only [HS,Fk]
  exact(this _ hc).elim
theorem OX {st:Ag T}: ∀ {cs ds:List (DC T)},RA st cs=some ds→(Aq cs).map (HS st.toSt)=Aq ds
 | [],ds,h=>by simp [RA]at h;subst h;simp [Aq]
 | c::cs,ds,h=>by
   unfold RA at h
   split at h
   ·rename_i d ds' h1 h2
    injection h with h;subst h
    simp only [Aq,List.map_cons,OW h1,OX h2]
   ·cases h
theorem OY {st:Ag T} {v w:DV T} (h:VV st v=some w):Bn st.toSt v.toV=w.toV:=by
 unfold VV at h
 split at h
 ·split at h
  ·rename_i y hy
   injection h with h;subst h
   simp only [DV.toV,Bn,OW hy]
  ·cases h
 ·split at h
  ·rename_i y hy
   injection h with h;subst h
   simp only [DV.toV,Bn,OX hy]
  ·cases h
 ·cases h
theorem E4 {st:Ag T}: ∀ {vs ws:List (DV T)},Jf st vs=some ws→(AO vs).map (Bn st.toSt)=AO ws
 | [],ws,h=>by simp [Jf]at h;subst h;simp [AO]
 | v::vs,ws,h=>by
   unfold Jf at h
   split at h
   ·rename_i d ds' h1 h2
    injection h with h;subst h
    simp only [AO,List.map_cons,OY h1,E4 h2]
   ·cases h
theorem RB (c:DC T):Mk c.toC=aO c:=by
 unfold aO
 split
 ·rename_i id ho
  rw [Dy ho]
  simp only [DC.toC,Mk]
 ·rename_i ho
  have:=Jg ho
  cases hc:c.toC<;>simp only [Mk]
  exact(this _ hc).elim
theorem RC: ∀ cs:List (DC T),(Aq cs).flatMap Mk=UR cs
 | []=>by simp [Aq,UR]
 | c::cs=>by simp only [Aq,List.flatMap_cons,RB,RC cs,UR]
theorem Zo (v:DV T):YH v.toV=US v:=by
 cases v with
 | c x=>simp only [DV.toV,YH,US,RB]
 | agg cs=>simp only [DV.toV,YH,US,RC]
 | _=>simp only [DV.toV,YH,US]
theorem Ew: ∀ vs:List (DV T),Cx (AO vs)=MC vs
 | []=>by simp [AO,Cx,MC]
 | v::vs=>by
   have:=Ew vs
   simp only [Cx]at this ⊢
   simp only [AO,List.flatMap_cons,Zo,this,MC]
theorem CL (t:VT) (x:DA T t):(DB t x).pure =true:=by
 cases t with
 | k kd=>simp only [DB,V.pure];exact QY kd x
 | s E=>simp only [DB,V.pure];exact Q1 E x
 | f g=>rfl
theorem Hz: ∀ (ts:List VT) (x:XS T ts),BZ (EO ts x)=true
 | [],_=>by simp only [EO,BZ]
 | t::ts,x=>by simp only [EO,BZ,CL,Hz ts,Bool.and_self]
theorem Ag.arg_val {st:Ag T} {key:List GL} {x:Operand} {v:DV T} (h:st.arg key x=some v) (g:Bool):(st.toSt.arg g x).2=v.toV:=by
 have e:=st.ev_toSt x
 unfold Ag.arg at h
 unfold St.arg
 split at h
 ·rename_i k v' hx
  split at h
  ·injection h with h;subst h
   rw [hx]at e
   simp only [DV.toV]at e
   rw [e]
  ·cases h
 ·rename_i hne
  injection h with h;subst h
  rw [e]
  cases hv:st.ev x with
  | g k v=>exact(hne k v hv).elim
  | _=>simp only [DV.toV]
theorem NB {st:Ag T} {key:List GL} (g:Bool): ∀ {xs:List Operand} {vs:List (DV T)},Gx st key xs=some vs→(st.toSt.args g xs).2=AO vs
 | [],vs,h=>by simp [Gx]at h;subst h;simp [St.args,AO]
 | x::xs,vs,h=>by
   unfold Gx at h
   split at h
   ·rename_i v vs' h1 h2
    injection h with h;subst h
    simp only [St.args,AO,Ag.arg_val h1 g,NB g h2]
   ·cases h
def UT {P:Program} {I:World→Prop} (Γ:List (CE T P I)) (key:List GL) (st:Ag T) (f:FuncId) (xs:List Operand) (d:Option Nat):M (Ag T):=
 match Gx st key xs with
 | some vs=>match Jf st vs with
   | some ws=>match LJ f ws Γ with
     | some ⟨e,x⟩=> .opt (gk key (e.run x)) fun r=>match key with
       | []=>match e.rs.all (NA T)with
         | true=> .ret (st.put d (Ny e.rs r))
         | false=>match MC vs with
           | []=> .ret (st.put d (Ny e.rs r))
           | [id]=>match st.frz id with
             | some s=> .ret (s.put d (Ny e.rs r))
             | none=> .no
           | _=> .no
       | l::ls=>match e.rs.all (NA T),MC vs with
         | true,_=> .ret (st.put d (.g (l::ls) (Ny e.rs r)))
         | false,[]=> .ret (st.put d (.g (l::ls) (Ny e.rs r)))
         | _,_=> .no
     | none=> .no
   | none=> .no
 | none=> .no
def eG (H:At T) (P:Program) (I:World→Prop) (ops:Array Oper) (st:Ag T) (o:Oper) (st':Ag T):Prop:=
 (∃ H',Nx H st H' st')∧st'.pre=st.pre∧ ∀ K:St→Prop,K st'.toSt→Uh P I ops o st.toSt K
section
variable {H:At T} {P:Program} {I:World→Prop} {Γ:List (CE T P I)} {st:Ag T}
theorem cw (hw:AB H st) {f:FuncId} {xs:List Operand} {o:Oper} (hk:B2 o.op= .call f xs):
 Yl (UT Γ [] st f xs o.dst) (fun st'=>(∃ H',Nx H st H' st')∧st'.pre=st.pre∧ ∀ K:St→Prop,K st'.toSt→bH P I o st.toSt K):=by
 unfold UT
 split
 ·rename_i vs hvs
  split
  ·rename_i ws hws
   split
   ·rename_i e x hx
    obtain⟨he,hx⟩:=EP hx
    refine Yl.opt fun r hr=>?_
    obtain⟨a1,a2,a3⟩:=CK (key:=[]) hw (fun _ hl=>by cases hl) rfl hvs
    change (st.toSt.args true xs).1 at a2
    change (st.toSt.args true xs).2=AO vs at a3
    have hp:=e.ok x r (Mt hr rfl)
    rw [he]at hp
    have hs:(AO vs).map (Bn st.toSt)=EO e.ps x:=by rw [E4 hws,hx]
    have base: ∀ st':Ag T,((GG e.rs r).flat =true∨(Cx (AO vs)).length ≤1∧ ∀ id∈Cx (AO vs),st.toSt.okFrz id=true)→st'.toSt=st.toSt.after (Cx (AO vs)) o.dst (GG e.rs r)→ ∀ K:St→Prop,K st'.toSt→bH P I o st.toSt K:=by
     intro st' h1 h2 K hK
     refine .inr ?_
     rw [hk]
     simp only
     rw [a3,hs]
     refine⟨a2,Hz _ _,_,hp,fun r' hr'=>?_⟩
     subst hr'
     exact⟨h1,by rw [←h2];exact hK⟩
    simp only
    split
    ·rename_i hf
     refine Yl.ret ⟨Ag.put_nx hw _ (KH _ _),AL _ _ _,base _ (.inl (by rw [IJ];exact hf)) ?_⟩
     rw [Ag.put_toSt,Ka]
     unfold St.after
     rw [if_pos (by rw [IJ];exact hf)]
    ·rename_i hf
     have hnf: ¬(GG e.rs r).flat =true:=by rw [IJ,hf];simp
     split
     ·rename_i ht
      refine Yl.ret ⟨Ag.put_nx hw _ (KH _ _),AL _ _ _,base _ (.inr (by rw [Ew,ht];simp)) ?_⟩
      rw [Ag.put_toSt,Ka,Ew,ht]
      unfold St.after
      rw [if_neg hnf]
     ·rename_i id ht
      split
      ·rename_i s hs'
       obtain⟨⟨H1,hN⟩,h2,h3,h4⟩:=Ag.frz_spec hw hs'
       refine Yl.ret ⟨Ag.put_spec hN _ (KH _ _),by rw [AL];exact h4,base _ (.inr (by rw [Ew,ht];simpa using h3)) ?_⟩
       rw [Ag.put_toSt,Ka,Ew,ht,h2]
       unfold St.after
       rw [if_neg hnf]
      ·exact Yl.no
     ·exact Yl.no
   ·exact Yl.no
  ·exact Yl.no
 ·exact Yl.no
theorem HB {H:At T} {st:Ag T} {key:List GL} (hw:AB H st) (hk:Ei H st.nx key) (d:Option Nat) {v:DV T} (hv:AV key=true→v.ok H st.nx): ∃ H',Nx H st H' (st.put d (.g key v)):=
 Ag.put_nx hw d (by simp only [DV.ok];exact⟨hk,hv⟩)
theorem cx (hw:AB H st) {f:FuncId} {xs:List Operand} {o:Oper} {key:List GL} (hk:B2 o.op= .call f xs) (hkey:Ei H st.nx key) (hne:key ≠ []):
 Yl (UT Γ key st f xs o.dst) (fun st'=>(∃ H',Nx H st H' st')∧st'.pre=st.pre∧ ∀ K:St→Prop,K st'.toSt→jN P I o st.toSt (AV key) K):=by
 unfold UT
 split
 ·rename_i vs hvs
  split
  ·rename_i ws hws
   split
   ·rename_i e x hx
    obtain⟨he,hx⟩:=EP hx
    refine Yl.opt fun r hr=>?_
    have hs:(AO vs).map (Bn st.toSt)=EO e.ps x:=by rw [E4 hws,hx]
    have base:((GG e.rs r).flat =true∨MC vs=[])→ ∀ K:St→Prop,K (st.put o.dst (.g key (Ny e.rs r))).toSt →jN P I o st.toSt (AV key) K:=by
     intro h1 K hK
     refine .inr ?_
     rw [hk]
     simp only
     rw [NB _ hvs,hs,Ew]
     rw [Ag.put_toSt]at hK
     refine⟨fun hc=>?_,GG e.rs r,h1,fun hc=>?_,by simpa only [DV.toV,Ka] using hK⟩
     ·obtain⟨a1,a2,a3⟩:=CK hw hkey hc hvs
      exact⟨a2,Hz _ _⟩
     ·have hp:=e.ok x r (Mt hr hc)
      rw [he]at hp
      exact hp
    split
    ·exact absurd rfl hne
    ·rename_i l ls
     split
     ·rename_i hf
      exact Yl.ret ⟨HB hw hkey _ (fun _=>KH _ _),AL _ _ _,base (.inl (by rw [IJ];exact hf))⟩
     ·rename_i hf ht
      exact Yl.ret ⟨HB hw hkey _ (fun _=>KH _ _),AL _ _ _,base (.inr ht)⟩
     ·exact Yl.no
   ·exact Yl.no
  ·exact Yl.no
 ·exact Yl.no
end
end Go.PL
namespace Go.PL
open Go Go.RowKit
variable {T:Be}
def ky (n:Nat) (want b:Bool):GL:=⟨n,want,b==want⟩
def RD (st:Ag T) (ops:Array Oper) (j:Nat) (want:Bool):Option (List GL):=
 match ops[j]? with
 | some p=>match p.dst with
   | some t=>match Q6 st (.tmp t),st.get t with
     | n+1, .c (.k .bool b)=>some [ky n want b]
     | n+1, .g k (.c (.k .bool b))=>some (ky n want b::k)
     | _,_=>none
   | none=>none
 | none=>none
theorem Kb {H:At T} {st:Ag T} {ops:Array Oper} {j:Nat} {want:Bool} {key:List GL} (hw:AB H st) (h:RD st ops j want=some key):GD st.toSt ops j want=some (AV key)∧Ei H st.nx key∧key ≠ []:=by
 unfold RD at h
 unfold GD
 split at h
 ·rename_i p hp
  split at h
  ·rename_i t ht
   simp only [hp,ht]
   have hg:=st.get_toSt t
   have hok:=Ag.get_ok hw t
   have tg: ∀ n,Q6 st (.tmp t)=n+1→n<st.nx∧H.v n=st.get t:=by
    intro n hn
    unfold Q6 at hn
    simp only at hn
    split at hn
    ·rename_i hb
     have:=QT hw.tm hn
     unfold Ag.get;rw [hb];exact this
    ·cases hn
   split at h
   ·rename_i n b hn hv
    injection h with h;subst h
    obtain⟨q1,q2⟩:=tg n hn
    rw [hv]at hg
    refine⟨by rw [hg];rfl,fun l hl=>?_,by simp⟩
    simp only [List.mem_singleton]at hl
    subst hl
    exact⟨q1,by show (_==_)=(VL (H.v n)==_);rw [q2,hv];rfl⟩
   ·rename_i n k b hn hv
    injection h with h;subst h
    obtain⟨q1,q2⟩:=tg n hn
    rw [hv]at hg hok
    simp only [DV.ok]at hok
    refine⟨?_,fun l hl=>?_,by simp⟩
    ·rw [hg]
     simp only [DV.toV,DC.toC,Bd]
     cases k with
     | nil=>simp [AV,ky]
     | cons a r=>rfl
    ·rcases List.mem_cons.1 hl with rfl | hl
     ·exact⟨q1,by show (_==_)=(VL (H.v n)==_);rw [q2,hv];rfl⟩
     ·exact hok.1 l hl
   ·cases h
  ·cases h
 ·cases h
def mo:DV T→Option Ah
 | .c x=>HX x
 | _=>none
def lX {P:Program} {I:World→Prop} (Γ:List (CE T P I)) (ops:Array Oper) (o:Oper) (st:Ag T):M (Ag T):=
 match o.guard with
 | none=>match B2 o.op with
   | .rd => .bnd (IF P [] st o.op) fun v=> .ret (st.put o.dst v)
   | .ef =>cj P st o
   | .call f xs=>UT Γ [] st f xs o.dst
   | .cut x=>match st.arg [] x with
     | some u=>match mo u with
       | some id=>match st.frz id with
         | some s=> .bnd (IF P [] s o.op) fun v=> .ret (s.put o.dst v)
         | none=> .no
       | none=> .bnd (IF P [] st o.op) fun v=> .ret (st.put o.dst v)
     | none=> .no
   | .no => .no
 | some (j,want)=>match RD st ops j want with
   | some key=>match B2 o.op with
     | .rd => .bnd (IF P key st o.op) fun v=> .ret (st.put o.dst (.g key v))
     | .call f xs=>UT Γ key st f xs o.dst
     | _=> .no
   | none=> .no
section
variable {H:At T} {P:Program} {I:World→Prop} {Γ:List (CE T P I)} {st:Ag T} {ops:Array Oper}
theorem IK (H:At T) (n:Nat):Ei H n []:=fun _ hl=>by cases hl
theorem IL (hw:AB H st) {o:Oper} {Φ:Ag T→Prop} (h: ∀ v:DV T,v.ok H st.nx→(De P st.toSt true o.op).1→(De P st.toSt true o.op).2=v.toV→Φ (st.put o.dst v)):Yl (M.bnd (IF P [] st o.op) fun v=> .ret (st.put o.dst v)) Φ:=
 Yl.bnd (IG hw (IK _ _) o.op) fun v hv=>by
  obtain⟨a,b,c⟩:=hv rfl
  exact Yl.ret (h v a b c)
theorem VW (hw:AB H st) (o:Oper):Yl (lX Γ ops o st) (eG H P I ops st o):=by
 unfold lX
 split
 ·rename_i hg
  have W: ∀ {st':Ag T},((∃ H',Nx H st H' st')∧st'.pre=st.pre∧ ∀ K:St→Prop,K st'.toSt→bH P I o st.toSt K)→eG H P I ops st o st':=fun⟨a,b,c⟩=>⟨a,b,fun K hK=>by unfold Uh;rw [hg];exact c K hK⟩
  split
  ·rename_i hk
   refine IL hw fun v hv h1 h2=>W ⟨Ag.put_nx hw _ hv,AL _ _ _,fun K hK=> .inr ?_⟩
   rw [hk]
   refine⟨h1,?_⟩
   rw [h2, ←Ag.put_toSt];exact hK
  ·rename_i hk
   refine(P4 hw o).mono fun st' h=>?_
   obtain⟨h1,h2,h3,h4⟩:=h
   refine W ⟨h1,h4,fun K hK=> .inl fun F a w G Q hI hR=>?_⟩
   obtain⟨nx,w',G',q1,q2⟩:=(Mj hR h2).out
   unfold Oper.wp Oper.upon
   rw [q1]
   rcases q2 with ⟨v,rfl,q3⟩ | ⟨rfl,q3⟩
   ·exact⟨_,G',hK,q3.less h3⟩
   ·exact⟨_,G',hK,q3.less h3⟩
  ·rename_i f xs hk
   exact(cw hw hk).mono fun st' h=>W h
  ·rename_i x hk
   split
   ·rename_i u hx
    obtain⟨a1,a2,a3⟩:=Hv hw hx
    split
    ·rename_i id ho
     have hu:u= .c (.c (.osl id)):=by
      unfold mo at ho
      split at ho
      ·rw [Dy ho]
      ·cases ho
     split
     ·rename_i s hs
      obtain⟨⟨H1,hN⟩,h2,h3,h4⟩:=Ag.frz_spec hw hs
      have hcut:st.toSt.cutAt true x=s.toSt:=by
       unfold St.cutAt
       rw [a3,hu]
       simp only [DV.toV,DC.toC]
       exact h2.symm
      refine IL hN.ok fun v hv q1 q2=>W ⟨Ag.put_spec hN _ hv,by rw [AL];exact h4,fun K hK=> .inr ?_⟩
      rw [hk]
      simp only
      rw [hcut]
      exact⟨q1,by rw [q2, ←Ag.put_toSt];exact hK⟩
     ·exact Yl.no
    ·rename_i ho
     have hcut:st.toSt.cutAt true x=st.toSt:=by
      unfold St.cutAt
      rw [a3]
      split
      ·rename_i id he
       exfalso
       cases u with
       | c y=>
         simp only [DV.toV,V.c.injEq]at he
         exact Jg ho id he
       | _=>simp [DV.toV]at he
      ·rfl
     refine IL hw fun v hv q1 q2=>W ⟨Ag.put_nx hw _ hv,AL _ _ _,fun K hK=> .inr ?_⟩
     rw [hk]
     simp only
     rw [hcut]
     exact⟨q1,by rw [q2, ←Ag.put_toSt];exact hK⟩
   ·exact Yl.no
  ·exact Yl.no
 ·rename_i j want hg
  split
  ·rename_i key hkey
   obtain⟨g1,g2,g3⟩:=Kb hw hkey
   have W: ∀ {st':Ag T},((∃ H',Nx H st H' st')∧st'.pre=st.pre∧ ∀ K:St→Prop,K st'.toSt→jN P I o st.toSt (AV key) K)→eG H P I ops st o st':=fun⟨a,b,c⟩=>⟨a,b,fun K hK=>by unfold Uh;rw [hg];simp only [g1];exact c K hK⟩
   split
   ·rename_i hk
    refine Yl.bnd (IG hw g2 o.op) fun v hv=>Yl.ret (W ⟨HB hw g2 _ (fun hc=>(hv hc).1),AL _ _ _,fun K hK=> .inr ?_⟩)
    rw [hk]
    refine⟨v.toV,fun hc=>(hv hc).2,?_⟩
    rw [Ag.put_toSt]at hK
    simpa only [DV.toV] using hK
   ·rename_i f xs hk
    exact(cx hw hk g2 g3).mono fun st' h=>W h
   ·exact Yl.no
  ·exact Yl.no
def mq {P:Program} {I:World→Prop} (Γ:List (CE T P I)) (ops:Array Oper):List Oper→Ag T→M (Ag T)
 | [],st=> .ret st
 | o::rest,st=> .bnd (lX Γ ops o st) fun st'=>mq Γ ops rest st'
theorem hJ: ∀ (l:List Oper) (st:Ag T) (H:At T),AB H st→Yl (mq Γ ops l st) (fun st'=>(∃ H',Nx H st H' st')∧st'.pre=st.pre∧ ∀ K:St→Prop,K st'.toSt→Da P I ops l st.toSt K)
 | [],st,H,hw=>Yl.ret ⟨⟨H,Nx.refl hw⟩,rfl,fun _ hK=>hK⟩
 | o::rest,st,H,hw=>Yl.bnd (VW hw o) fun s hs=>by
   obtain⟨⟨H1,h1⟩,h2,h3⟩:=hs
   refine(hJ rest s H1 h1.ok).mono fun s' hs'=>?_
   obtain⟨⟨H2,k1⟩,k2,k3⟩:=hs'
   exact⟨⟨H2,h1.trans k1⟩,k2.trans h2,fun K hK=>h3 _ (k3 K hK)⟩
def VX {P:Program} {I:World→Prop} (Γ:List (CE T P I)) (key:List GL) (st:Ag T) (f:FuncId) (xs:List Operand):M (DV T):=
 match Gx st key xs with
 | some vs=>match Jf st vs with
   | some ws=>match LJ f ws Γ with
     | some ⟨e,x⟩=>mIf (e.rs.all (NA T)) (.opt (gk key (e.run x)) fun r=> .ret (Ny e.rs r))
     | none=> .no
   | none=> .no
 | none=> .no
def kz {P:Program} {I:World→Prop} (Γ:List (CE T P I)) (ops:Array Oper) (o:Oper) (st:Ag T):M (Ag T):=
 match o.guard with
 | none=>match B2 o.op with
   | .rd => .bnd (IF P [] st o.op) fun v=> .ret (st.put o.dst v)
   | .call f xs=> .bnd (VX Γ [] st f xs) fun v=> .ret (st.put o.dst v)
   | .cut _=> .bnd (IF P [] st o.op) fun v=> .ret (st.put o.dst v)
   | _=> .no
 | some (j,want)=>match RD st ops j want with
   | some key=>match B2 o.op with
     | .rd => .bnd (IF P key st o.op) fun v=> .ret (st.put o.dst (.g key v))
     | .call f xs=> .bnd (VX Γ key st f xs) fun v=> .ret (st.put o.dst (.g key v))
     | .cut _=> .bnd (IF P key st o.op) fun v=> .ret (st.put o.dst (.g key v))
     | _=> .no
   | none=> .no
theorem UU {key:List GL} (hw:AB H st) (hk:Ei H st.nx key) {f:FuncId} {xs:List Operand}:
 Yl (VX Γ key st f xs) (fun v=>(∀ n,v.ok H n)∧v.toV.flat=true∧(AV key=true→(st.toSt.args (AV key) xs).1∧BZ ((st.toSt.args (AV key) xs).2.map (Bn st.toSt))=true)∧(AV key=true→CC P I f ((st.toSt.args (AV key) xs).2.map (Bn st.toSt)) (· =v.toV))):=by
 unfold VX
 split
 ·rename_i vs hvs
  split
  ·rename_i ws hws
   split
   ·rename_i e x hx
    obtain⟨he,hx⟩:=EP hx
    refine Yl.mIf fun hf=>Yl.opt fun r hr=>Yl.ret ?_
    have hs:(AO vs).map (Bn st.toSt)=EO e.ps x:=by rw [E4 hws,hx]
    rw [NB _ hvs,hs,Ka]
    refine⟨fun n=>KH _ _,by rw [IJ];exact hf,fun hc=>⟨(CK hw hk hc hvs).2.1,Hz _ _⟩,fun hc=>?_⟩
    have hp:=e.ok x r (Mt hr hc)
    rw [he]at hp
    exact hp
   ·exact Yl.no
  ·exact Yl.no
 ·exact Yl.no
theorem hZ (hw:AB H st) (o:Oper):Yl (kz Γ ops o st) (fun st'=>(∃ H',Nx H st H' st')∧st'.pre=st.pre∧ ∀ K:St→Prop,K st'.toSt→jQ P I ops o st.toSt K):=by
 unfold kz
 split
 ·rename_i hg
  have W: ∀ {st':Ag T},((∃ H',Nx H st H' st')∧st'.pre=st.pre∧ ∀ K:St→Prop,K st'.toSt→jO P I o st.toSt K)→(∃ H',Nx H st H' st')∧st'.pre=st.pre∧ ∀ K:St→Prop,K st'.toSt→jQ P I ops o st.toSt K:=fun⟨a,b,c⟩=>⟨a,b,fun K hK=>by unfold jQ;rw [hg];exact c K hK⟩
  split
  ·rename_i hk
   refine IL hw fun v hv h1 h2=>W ⟨Ag.put_nx hw _ hv,AL _ _ _,fun K hK=>?_⟩
   unfold jO
   rw [hk]
   exact⟨h1,by rw [h2, ←Ag.put_toSt];exact hK⟩
  ·rename_i f xs hk
   refine Yl.bnd (UU hw (IK _ _)) fun v hv=>Yl.ret (W ⟨Ag.put_nx hw _ (hv.1 _),AL _ _ _,fun K hK=>?_⟩)
   obtain⟨q1,q2,q3,q4⟩:=hv
   unfold jO
   rw [hk]
   exact⟨(q3 rfl).1,(q3 rfl).2,v.toV,q2,q4 rfl,by rw [←Ag.put_toSt];exact hK⟩
  ·rename_i x hk
   refine IL hw fun v hv h1 h2=>W ⟨Ag.put_nx hw _ hv,AL _ _ _,fun K hK=>?_⟩
   unfold jO
   rw [hk]
   exact⟨h1,by rw [h2, ←Ag.put_toSt];exact hK⟩
  ·exact Yl.no
 ·rename_i j want hg
  split
  ·rename_i key hkey
   obtain⟨g1,g2,g3⟩:=Kb hw hkey
   have W: ∀ {st':Ag T},((∃ H',Nx H st H' st')∧st'.pre=st.pre∧ ∀ K:St→Prop,K st'.toSt→jP P I o st.toSt (AV key) K)→(∃ H',Nx H st H' st')∧st'.pre=st.pre∧ ∀ K:St→Prop,K st'.toSt→jQ P I ops o st.toSt K:=fun⟨a,b,c⟩=>⟨a,b,fun K hK=>by unfold jQ;rw [hg];simp only [g1];exact c K hK⟩
   split
   ·rename_i hk
    refine Yl.bnd (IG hw g2 o.op) fun v hv=>Yl.ret (W ⟨HB hw g2 _ (fun hc=>(hv hc).1),AL _ _ _,fun K hK=>?_⟩)
    unfold jP
    rw [hk]
    refine⟨v.toV,fun hc=>(hv hc).2,?_⟩
    rw [Ag.put_toSt]at hK
    simpa only [DV.toV] using hK
   ·rename_i f xs hk
    refine Yl.bnd (UU hw g2) fun v hv=>Yl.ret (W ⟨HB hw g2 _ (fun _=>hv.1 _),AL _ _ _,fun K hK=>?_⟩)
    obtain⟨q1,q2,q3,q4⟩:=hv
    unfold jP
    rw [hk]
    refine⟨q3,v.toV,q2,q4,?_⟩
    rw [Ag.put_toSt]at hK
    simpa only [DV.toV] using hK
   ·rename_i x hk
    refine Yl.bnd (IG hw g2 o.op) fun v hv=>Yl.ret (W ⟨HB hw g2 _ (fun hc=>(hv hc).1),AL _ _ _,fun K hK=>?_⟩)
    unfold jP
    rw [hk]
    refine⟨v.toV,fun hc=>(hv hc).2,?_⟩
    rw [Ag.put_toSt]at hK
    simpa only [DV.toV] using hK
   ·exact Yl.no
  ·exact Yl.no
def eH {P:Program} {I:World→Prop} (Γ:List (CE T P I)) (ops:Array Oper):List Oper→Ag T→M (Ag T)
 | [],st=> .ret st
 | o::rest,st=> .bnd (kz Γ ops o st) fun st'=>eH Γ ops rest st'
theorem XH: ∀ (l:List Oper) (st:Ag T) (H:At T),AB H st→Yl (eH Γ ops l st) (fun st'=>(∃ H',Nx H st H' st')∧st'.pre=st.pre∧ ∀ K:St→Prop,K st'.toSt→Ui P I ops l st.toSt K)
 | [],st,H,hw=>Yl.ret ⟨⟨H,Nx.refl hw⟩,rfl,fun _ hK=>hK⟩
 | o::rest,st,H,hw=>Yl.bnd (hZ hw o) fun s hs=>by
   obtain⟨⟨H1,h1⟩,h2,h3⟩:=hs
   refine(XH rest s H1 h1.ok).mono fun s' hs'=>?_
   obtain⟨⟨H2,k1⟩,k2,k3⟩:=hs'
   exact⟨⟨H2,h1.trans k1⟩,k2.trans h2,fun K hK=>h3 _ (k3 K hK)⟩
end
end Go.PL
namespace Go.PL
open Go Go.RowKit
variable {T:Be}
def RE (v v':V):Prop:= ∀ (w:World) (G:Ay) (u:Value),Ab w G v u→Ab w G v' u
def KV (c c':C):Prop:= ∀ (w:World) (G:Ay) (u:Value),Ad w G c u→Ad w G c' u
def DD:List C→List C→Prop
 | [],[]=>True
 | c::cs,d::ds=>KV c d∧DD cs ds
 | _,_=>False
theorem KV.refl (c:C):KV c c:=fun _ _ _ h=>h
theorem RE.refl (c:V):RE c c:=fun _ _ _ h=>h
theorem KV.weak {c d:C} (h:Fk c=d):KV c d:=fun _ _ _ hr=>h▸GO hr
theorem DD.length: ∀ {cs ds:List C},DD cs ds→cs.length=ds.length
 | [],[],_=>rfl
 | [],_::_,h=>h.elim
 | _::_,[],h=>h.elim
 | c::cs,d::ds,h=>by simp [DD.length h.2]
theorem DD.append: ∀ {a b x y:List C},DD a b→DD x y→DD (a++x) (b++y)
 | [],[],_,_,_,h=>h
 | [],_::_,_,_,h,_=>h.elim
 | _::_,[],_,_,h,_=>h.elim
 | c::cs,d::ds,_,_,h,k=>⟨h.1,DD.append h.2 k⟩
theorem DD.weak: ∀ {cs ds:List C},cs.map Fk=ds→DD cs ds
 | [],ds,h=>by simp at h;subst h;trivial
 | c::cs,ds,h=>by
   subst h
   exact⟨KV.weak rfl,DD.weak rfl⟩
theorem DD.refl: ∀ cs:List C,DD cs cs
 | []=>trivial
 | c::cs=>⟨KV.refl c,DD.refl cs⟩
theorem Ak.imp {w:World} {G:Ay}: ∀ {cs ds:List C} {b off:Nat},DD cs ds→Ak w G cs b off→Ak w G ds b off
 | [],[],_,_,_,h=>h
 | [],_::_,_,_,h,_=>h.elim
 | _::_,[],_,_,h,_=>h.elim
 | c::cs,d::ds,b,off,h,hr=>by
   simp only [Ak]at hr ⊢
   obtain⟨⟨v,h1,h2⟩,h3⟩:=hr
   exact⟨⟨v,h1,h.1 _ _ _ h2⟩,Ak.imp h.2 h3⟩
theorem Ai.imp {w:World} {G:Ay}: ∀ {cs ds:List C} {vs:List Value},DD cs ds→Ai w G cs vs→Ai w G ds vs
 | [],[],_,_,h=>h
 | [],_::_,_,h,_=>h.elim
 | _::_,[],_,h,_=>h.elim
 | c::cs,d::ds,[],_,hr=>by simp only [Ai]at hr
 | c::cs,d::ds,v::vs,h,hr=>by
   simp only [Ai]at hr ⊢
   exact⟨h.1 _ _ _ hr.1,Ai.imp h.2 hr.2⟩
structure nN (st st':St):Prop where
 len:st'.tm.length=st.tm.length
 tm: ∀ i,RE (st.tm.getD i .undef) (st'.tm.getD i .undef)
 so: ∀ e'∈st'.so,e'∈st.so∨ ∃ cs cs',(⟨e'.id,none,cs,false⟩:As)∈st.so∧e'=⟨e'.id,none,cs',false⟩∧DD cs cs'∧Vk cs=false
 nd:(st'.so.map (·.id)).Nodup
 gh:st'.gh=st.gh
 pre:st'.pre=st.pre
theorem R.wkn {F:Fr} {st st':St} {a:Act} {w:World} {G:Ay} (h:R F st a w G) (k:nN st st'):R F st' a w G:={
 dfr:=h.dfr
 size:=by rw [k.len];exact h.size
 slots:=fun i=>k.tm i _ _ _ (h.slots i)
 ghosts:=by rw [k.gh];exact h.ghosts
 store:=fun e he=>by
  rcases k.so e he with q | ⟨cs,cs',q1,q2,q3,q4⟩
  ·exact h.store e q
  ·have:=h.store _ q1
   rw [q2]
   simp only [AX]at this ⊢
   obtain⟨b,h1,h2⟩:=this
   obtain⟨Ty,cur,h3,h4,h5⟩:=h2.cells q4
   exact⟨b,h1, .inr ⟨Ty,cur,h3,by rw [h4,q3.length],h5.imp q3⟩⟩
 deep:=fun e he=>by
  rcases k.so e he with q | ⟨cs,cs',q1,q2,q3,q4⟩
  ·exact h.deep e q
  ·have:=h.deep _ q1
   rw [q2]
   exact⟨this.1,fun hd=>by have:=(this.2 hd).1;cases this⟩
 pures:=fun e he hp=>by
  rcases k.so e he with q | ⟨cs,cs',q1,q2,q3,q4⟩
  ·exact h.pures e q hp
  ·rw [q2]at hp;cases hp
 nodup:=k.nd
 inj:=h.inj,lt:=h.lt,new:=h.new,wr:=h.wr,avlt:=h.avlt,inv:=h.inv,avold:=h.avold,os:=h.os,tape:=h.tape,output:=h.output,hsize:=h.hsize,ext:=h.ext}
theorem Wk.wkn {st st':St} (k:nN st st'):Wk st st':=fun _ _ _ G hR=>⟨G,hR.wkn k⟩
inductive Sg where
 | v (t:VT)
 | c (x:C)
inductive VSp where
 | c (s:Sg)
 | agg (l:List Sg)
inductive ESp where
 | box (l:List Sg)
 | row (E:Nat)
 | deep (E:Nat)
structure Gq where
 ks:List Nat
 vs:List (Nat×VSp)
 ke:List Ah
 es:List (Ah×ESp)
def Sg.ts:List Sg→List VT
 | []=>[]
 | .v t::r=>t::Sg.ts r
 | .c _::r=>Sg.ts r
def VSp.ts:VSp→List VT
 | .c s=>Sg.ts [s]
 | .agg l=>Sg.ts l
def ESp.ts:ESp→List VT
 | .box l=>Sg.ts l
 | .row E=>[.k (.lst E)]
 | .deep E=>[.k (.int .i64), .k (.lst E)]
def mr:List (Nat×VSp)→List VT
 | []=>[]
 | (_,p)::r=>p.ts++mr r
def mt:List (Ah×ESp)→List VT
 | []=>[]
 | (_,p)::r=>p.ts++mt r
def Gq.ts (sh:Gq):List VT:=mr sh.vs++mt sh.es
def nO (x c:C):Bool:=match x,c with
 | .any,_=>true
 | .osl i, .osl j=>A1 i j
 | .ptr i o, .ptr j o'=>A1 i j&&Nat.beq o o'
 | .nilp, .nilp =>true
 | .niface, .niface =>true
 | .held, .held =>true
 | .nils, .nils =>true
 | .fn f, .fn g=>Nat.beq f g
 | _,_=>false
theorem ia {x c:C} (h:nO x c=true):KV c x:=by
 unfold nO at h
 split at h
 ·intro w G u hr
  simp only [Ad]
  exact hr.one
 ·have:=Az.1 h;subst this;exact KV.refl _
 ·simp only [Bool.and_eq_true,Nat.beq_eq]at h
  have:=Az.1 h.1;subst this;rw [h.2];exact KV.refl _
 ·exact KV.refl _
 ·exact KV.refl _
 ·exact KV.refl _
 ·exact KV.refl _
 ·have:=Nat.eq_of_beq_eq_true h;subst this;exact KV.refl _
 ·cases h
def HZ:List Sg→List (DC T)→Option (List (DV T)×List (DC T))
 | [],cs=>some ([],cs)
 | .c x::r,c::cs=>match nO x c.toC with
   | true=>HZ r cs
   | false=>none
 | .v (.k _)::r,c::cs=>match HZ r cs with
   | some (vs,ds)=>some (.c c::vs,ds)
   | none=>none
 | .v (.s E)::r,cs=>match Nat.ble (T.sz E) cs.length,HZ r (cs.drop (T.sz E))with
   | true,some (vs,ds)=>some (.agg (cs.take (T.sz E))::vs,ds)
   | _,_=>none
 | _,_=>none
def EQ:List Sg→List (DV T)→Option (List (DC T)×List (DV T))
 | [],vs=>some ([],vs)
 | .c x::r,vs=>match EQ r vs with
   | some (cs,us)=>some (.c x::cs,us)
   | none=>none
 | .v _::r, .c y::vs=>match EQ r vs with
   | some (cs,us)=>some (y::cs,us)
   | none=>none
 | .v _::r, .agg ds::vs=>match EQ r vs with
   | some (cs,us)=>some (ds++cs,us)
   | none=>none
 | _::_,_=>none
def ib (v v':DV T):Prop:=(∃ c c',v= .c c∧v'= .c c'∧Fk c.toC=c'.toC∧c'.ok)∨(∃ cs cs',v= .agg cs∧v'= .agg cs'∧(Aq cs).map Fk=Aq cs'∧BU cs')
inductive All2 {α β:Type} (P:α→β→Prop):List α→List β→Prop
 | nil:All2 P [] []
 | cons {a b l m}:P a b→All2 P l m→All2 P (a::l) (b::m)
theorem All2.append_inv {α β:Type} {P:α→β→Prop}: ∀ {a b:List α} {m:List β},All2 P (a++b) m→ ∃ x y,m=x++y∧All2 P a x∧All2 P b y
 | [],b,m,h=>⟨[],m,rfl, .nil,h⟩
 | c::a,b,m,h=>by
   cases h with
   | cons h1 h2=>
     obtain⟨x,y,e,p,q⟩:=All2.append_inv h2
     subst e
     exact⟨_::x,y,rfl, .cons h1 p,q⟩
theorem FB: ∀ {l:List Sg} {cs ds:List (DC T)} {vs vs':List (DV T)} {cs':List (DC T)} {us us':List (DV T)},HZ l cs=some (vs,ds)→All2 ib vs vs'→EQ l (vs'++us)=some (cs',us')→
 us'=us∧DD (Aq cs) (Aq cs'++Aq ds)∧BU cs'
 | [],cs,ds,vs,vs',cs',us,us',h,hw,hi=>by
   simp only [HZ,Option.some.injEq,Prod.mk.injEq]at h
   obtain⟨rfl,rfl⟩:=h
   cases hw
   simp only [EQ,List.nil_append,Option.some.injEq,Prod.mk.injEq]at hi
   obtain⟨rfl,rfl⟩:=hi
   exact⟨rfl,by simpa [Aq] using DD.refl _,by simp [BU]⟩
 | .c x::r,c::cs,ds,vs,vs',cs',us,us',h,hw,hi=>by
   simp only [HZ]at h
   split at h
   ·rename_i ho
    simp only [EQ]at hi
    split at hi
    ·rename_i cs1 us1 h1
     simp only [Option.some.injEq,Prod.mk.injEq]at hi
     obtain⟨rfl,rfl⟩:=hi
     obtain⟨a,b,d⟩:=FB h hw h1
     refine⟨a,?_,by simp only [BU,DC.ok];exact⟨trivial,d⟩⟩
     simp only [Aq,List.cons_append,DC.toC]
     exact⟨ia ho,b⟩
    ·cases hi
   ·cases h
 | .v (.k kd)::r,c::cs,ds,vs,vs',cs',us,us',h,hw,hi=>by
   simp only [HZ]at h
   split at h
   ·rename_i vs1 ds1 h1
    simp only [Option.some.injEq,Prod.mk.injEq]at h
    obtain⟨rfl,rfl⟩:=h
    cases hw with
    | cons p q=>
      rename_i b m
      rcases p with ⟨c0,c',e1,e2,e3,e4⟩ | ⟨_,_,e1,_⟩
      ·injection e1 with e1
       subst e1 e2
       simp only [List.cons_append,EQ]at hi
       split at hi
       ·rename_i cs1 us1 h2
        simp only [Option.some.injEq,Prod.mk.injEq]at hi
        obtain⟨rfl,rfl⟩:=hi
        obtain⟨a,b,d⟩:=FB h1 q h2
        refine⟨a,?_,by simp only [BU];exact⟨e4,d⟩⟩
        simp only [Aq,List.cons_append]
        exact⟨KV.weak e3,b⟩
       ·cases hi
      ·cases e1
   ·cases h
 | .v (.s E)::r,cs,ds,vs,vs',cs',us,us',h,hw,hi=>by
   simp only [HZ]at h
   split at h
   ·rename_i vs1 ds1 hb h1
    simp only [Option.some.injEq,Prod.mk.injEq]at h
    obtain⟨rfl,rfl⟩:=h
    cases hw with
    | cons p q=>
      rename_i b m
      rcases p with ⟨_,_,e1,_⟩ | ⟨c0,c',e1,e2,e3,e4⟩
      ·cases e1
      ·injection e1 with e1
       subst e1 e2
       simp only [List.cons_append,EQ]at hi
       split at hi
       ·rename_i cs1 us1 h2
        simp only [Option.some.injEq,Prod.mk.injEq]at hi
        obtain⟨rfl,rfl⟩:=hi
        obtain⟨a,b,d⟩:=FB h1 q h2
        refine⟨a,?_,CF e4 d⟩
        have e:Aq cs=Aq (cs.take (T.sz E))++Aq (cs.drop (T.sz E)):=by rw [←BQ,List.take_append_drop]
        rw [e,BQ,List.append_assoc]
        exact(DD.weak e3).append b
       ·cases hi
   ·cases h
 | .c _::_,[],_,_,_,_,_,_,h,_,_=>by simp [HZ]at h
 | .v (.k _)::_,[],_,_,_,_,_,_,h,_,_=>by simp [HZ]at h
 | .v (.f _)::_,_,_,_,_,_,_,_,h,_,_=>by simp [HZ]at h
def kA:VSp→DV T→Option (List (DV T))
 | .c s, .c x=>match HZ [s] [x]with
   | some (vs,[])=>some vs
   | _=>none
 | .agg l, .agg cs=>match HZ l cs with
   | some (vs,[])=>some vs
   | _=>none
 | _,_=>none
def cy:VSp→List (DV T)→Option (DV T×List (DV T))
 | .c s,vs=>match EQ [s] vs with
   | some ([c],us)=>some (.c c,us)
   | _=>none
 | .agg l,vs=>match EQ l vs with
   | some (cs,us)=>some (.agg cs,us)
   | none=>none
theorem cz {p:VSp} {v:DV T} {vs vs' us us':List (DV T)} {v':DV T} (h:kA p v=some vs) (hw:All2 ib vs vs') (hi:cy p (vs'++us)=some (v',us')):us'=us∧RE v.toV v'.toV:=by
 unfold kA at h
 split at h
 ·rename_i s x
  split at h
  ·rename_i vs1 h1
   injection h with h;subst h
   simp only [cy]at hi
   split at hi
   ·rename_i c us1 h2
    simp only [Option.some.injEq,Prod.mk.injEq]at hi
    obtain⟨rfl,rfl⟩:=hi
    obtain⟨a,b,d⟩:=FB h1 hw h2
    refine⟨a,?_⟩
    simp only [Aq,List.append_nil,DD,and_true]at b
    intro w G u hr
    simp only [DV.toV,Ab]at hr ⊢
    exact b _ _ _ hr
   ·cases hi
  ·cases h
 ·rename_i l cs
  split at h
  ·rename_i vs1 h1
   injection h with h;subst h
   simp only [cy]at hi
   split at hi
   ·rename_i c us1 h2
    simp only [Option.some.injEq,Prod.mk.injEq]at hi
    obtain⟨rfl,rfl⟩:=hi
    obtain⟨a,b,d⟩:=FB h1 hw h2
    refine⟨a,?_⟩
    simp only [Aq,List.append_nil]at b
    intro w G u hr
    simp only [DV.toV,Ab]at hr ⊢
    obtain⟨arr,e,hr⟩:=hr
    exact⟨arr,e,hr.imp b⟩
   ·cases hi
  ·cases h
 ·cases h
def cA (v:DV T):Prop:= ∀ (H:At T) (n:Nat),v.ok H n
theorem IM: ∀ {l:List Sg} {vs us:List (DV T)} {cs:List (DC T)},(∀ v∈vs,cA v)→EQ l vs=some (cs,us)→BU cs∧ ∀ v∈us,cA v
 | [],vs,us,cs,hv,h=>by
   simp only [EQ,Option.some.injEq,Prod.mk.injEq]at h
   obtain⟨rfl,rfl⟩:=h
   exact⟨by simp [BU],hv⟩
 | .c x::r,vs,us,cs,hv,h=>by
   simp only [EQ]at h
   split at h
   ·rename_i cs1 us1 h1
    simp only [Option.some.injEq,Prod.mk.injEq]at h
    obtain⟨rfl,rfl⟩:=h
    obtain⟨a,b⟩:=IM hv h1
    exact⟨by simp only [BU,DC.ok];exact⟨trivial,a⟩,b⟩
   ·cases h
 | .v t::r,vs,us,cs,hv,h=>by
   match vs,hv,h with
   | .c y::vs,hv,h=>
     simp only [EQ]at h
     split at h
     ·rename_i cs1 us1 h1
      simp only [Option.some.injEq,Prod.mk.injEq]at h
      obtain⟨rfl,rfl⟩:=h
      obtain⟨a,b⟩:=IM (fun v hm=>hv v (by simp [hm])) h1
      have:=hv (.c y) (by simp) ⟨fun _=> .u,fun _=>⟨[],0, .box []⟩⟩ 0
      simp only [DV.ok]at this
      exact⟨by simp only [BU];exact⟨this,a⟩,b⟩
     ·cases h
   | .agg ds::vs,hv,h=>
     simp only [EQ]at h
     split at h
     ·rename_i cs1 us1 h1
      simp only [Option.some.injEq,Prod.mk.injEq]at h
      obtain⟨rfl,rfl⟩:=h
      obtain⟨a,b⟩:=IM (fun v hm=>hv v (by simp [hm])) h1
      have:=hv (.agg ds) (by simp) ⟨fun _=> .u,fun _=>⟨[],0, .box []⟩⟩ 0
      simp only [DV.ok]at this
      exact⟨CF this a,b⟩
     ·cases h
   | [],_,h=>simp [EQ]at h
   | .tup _::_,_,h=>simp [EQ]at h
   | .g _ _::_,_,h=>simp [EQ]at h
   | .u ::_,_,h=>simp [EQ]at h
theorem ic {p:VSp} {vs us:List (DV T)} {v:DV T} (hv: ∀ v∈vs,cA v) (h:cy p vs=some (v,us)):cA v∧ ∀ v∈us,cA v:=by
 unfold cy at h
 split at h
 ·split at h
  ·rename_i c us1 h1
   simp only [Option.some.injEq,Prod.mk.injEq]at h
   obtain⟨rfl,rfl⟩:=h
   obtain⟨a,b⟩:=IM hv h1
   simp only [BU,and_true]at a
   exact⟨fun H n=>by simp only [DV.ok];exact a,b⟩
  ·cases h
 ·split at h
  ·rename_i c us1 h1
   simp only [Option.some.injEq,Prod.mk.injEq]at h
   obtain⟨rfl,rfl⟩:=h
   obtain⟨a,b⟩:=IM hv h1
   exact⟨fun H n=>by simp only [DV.ok];exact a,b⟩
  ·cases h
end Go.PL
namespace Go.PL
open Go Go.RowKit
variable {T:Be}
def VY (kd:Kd) (v:DV T):Option (KA T.den kd):=match mm v with
 | some x=>Gv true kd x
 | none=>none
def VZ (E:Nat) (v:DV T):Option (T.den E):=match mn v with
 | some cs=>dl true E cs
 | none=>none
def RF:(t:VT)→DV T→Option (DA T t)
 | .k kd,v=>VY kd v
 | .s E,v=>VZ E v
 | .f _,_=>none
theorem V0 {kd:Kd} {v:DV T} {x:KA T.den kd} (h:VY kd v=some x):ib v (.c (.k kd x)):=by
 unfold VY at h
 split at h
 ·rename_i y hy
  exact .inl ⟨y,_,Ru hy,rfl,(Co h).1,by simp only [DC.ok]⟩
 ·cases h
theorem V1 {E:Nat} {v:DV T} {x:T.den E} (h:VZ E v=some x):ib v (.agg (VM E x)):=by
 unfold VZ at h
 split at h
 ·rename_i y hy
  exact .inr ⟨y,_,Rv hy,rfl,by rw [E3];exact(F2 h).1,Jc E x⟩
 ·cases h
theorem OZ {t:VT} {v:DV T} {x:DA T t} (h:RF t v=some x):ib v (JD t x):=by
 cases t with
 | k kd=>exact V0 h
 | s E=>exact V1 h
 | f g=>cases h
def aP {α β:Type}:Option α→Option β→Option (α×β)
 | some x,some y=>some (x,y)
 | _,_=>none
theorem Zp {α β:Type} {a:Option α} {b:Option β} {x:α×β} (h:aP a b=some x):a=some x.1∧b=some x.2:=by
 cases a<;>cases b<;>simp [aP]at h
 subst h;exact⟨rfl,rfl⟩
def V2:(ts:List VT)→List (DV T)→Option (RT T ts)
 | [],[]=>some ()
 | [t],[v]=>RF t v
 | t::u::ts,v::vs=>aP (RF t v) (V2 (u::ts) vs)
 | _,_=>none
theorem O0: ∀ {ts:List VT} {vs:List (DV T)} {x:RT T ts},V2 ts vs=some x→All2 ib vs (Cf ts x)
 | [],[],x,_=> .nil
 | [],_::_,x,h=>by cases (show (none:Option (RT T []))=some x from h)
 | [t],[v],x,h=> .cons (OZ (show RF t v=some x from h)) .nil
 | [t],[],x,h=>by cases (show (none:Option (RT T [t]))=some x from h)
 | [t],v::w::vs,x,h=>by cases (show (none:Option (RT T [t]))=some x from h)
 | t::u::ts,[],x,h=>by cases (show (none:Option (RT T (t::u::ts)))=some x from h)
 | t::u::ts,v::vs,x,h=>by
   obtain⟨h1,h2⟩:=Zp (show aP (RF t v) (V2 (u::ts) vs)=some x from h)
   exact .cons (OZ h1) (O0 h2)
theorem DF (ts:List VT) (x:RT T ts): ∀ v∈Cf ts x,cA v:=fun v hv H n=>Hm.1 (Nz (H:=H) (nx:=n) ts x) v hv
def Kc (tm:Tm T):List (Nat×VSp)→Option (List (DV T))
 | []=>some []
 | (s,p)::r=>match kA p (lk tm s),Kc tm r with
   | some a,some b=>some (a++b)
   | _,_=>none
def F9:List (Nat×VSp)→List (DV T)→Ag T→Option (Ag T×List (DV T))
 | [],vs,st=>some (st,vs)
 | (s,p)::r,vs,st=>match cy p vs with
   | some (v,us)=>F9 r us (st.put (some s) v)
   | none=>none
theorem H5 {H:At T} {st0:Ag T}: ∀ {l:List (Nat×VSp)} {vs us:List (DV T)} {st st':Ag T} {H1:At T},Nx H st0 H1 st→(∀ v∈vs,cA v)→F9 l vs st=some (st',us)→
 (∃ H',Nx H st0 H' st')∧(∀ v∈us,cA v)∧st'.so=st.so∧st'.gh=st.gh∧st'.pre=st.pre∧st'.m=st.m
 | [],vs,us,st,st',H1,hn,hv,h=>by
   simp only [F9,Option.some.injEq,Prod.mk.injEq]at h
   obtain⟨rfl,rfl⟩:=h
   exact⟨⟨H1,hn⟩,hv,rfl,rfl,rfl,rfl⟩
 | (s,p)::r,vs,us,st,st',H1,hn,hv,h=>by
   simp only [F9]at h
   split at h
   ·rename_i v us1 h1
    obtain⟨a,b⟩:=ic hv h1
    obtain⟨H2,h2⟩:=Ag.put_spec hn (some s) (a H1 _)
    obtain⟨c1,c2,c3,c4,c5,c6⟩:=H5 h2 b h
    exact⟨c1,c2,c3,c4,c5,c6⟩
   ·cases h
theorem eJ (st:Ag T) (s i:Nat) (v:DV T):lk (st.put (some s) v).tm i=if s=i then v else lk st.tm i:=by
 simp only [Ag.put,lk]
 by_cases h:s=i
 ·subst h;simp
 ·rw [if_neg h]
  have:Nat.beq s i=false:=by
   cases hb:Nat.beq s i
   ·rfl
   ·exact absurd (Nat.eq_of_beq_eq_true hb) h
  rw [this]
theorem UV {tm:Tm T}: ∀ {l:List (Nat×VSp)} {vs vs' us us':List (DV T)} {st st':Ag T},Kc tm l=some vs→All2 ib vs vs'→F9 l (vs'++us) st=some (st',us')→(∀ i,RE (lk tm i).toV (lk st.tm i).toV)→
 us'=us∧ ∀ i,RE (lk tm i).toV (lk st'.tm i).toV
 | [],vs,vs',us,us',st,st',h,hw,hi,hs=>by
   simp only [Kc,Option.some.injEq]at h
   subst h
   cases hw
   simp only [F9,List.nil_append,Option.some.injEq,Prod.mk.injEq]at hi
   obtain⟨rfl,rfl⟩:=hi
   exact⟨rfl,hs⟩
 | (s,p)::r,vs,vs',us,us',st,st',h,hw,hi,hs=>by
   simp only [Kc]at h
   split at h
   ·rename_i a b h1 h2
    injection h with h;subst h
    obtain⟨x,y,rfl,k1,k2⟩:=All2.append_inv hw
    simp only [F9]at hi
    split at hi
    ·rename_i v us1 h3
     rw [List.append_assoc]at h3
     obtain⟨e,hv⟩:=cz h1 k1 h3
     subst e
     refine UV h2 k2 hi fun i=>?_
     rw [eJ]
     split
     ·rename_i e;subst e;exact hv
     ·exact hs i
    ·cases hi
   ·cases h
def kC (l:List (DE T)) (id:Ah) (p:ESp):Option (List (DV T)):=match Fl l id,p with
 | some e, .box sg=>match e.x with
   | .box cs=>match az cs,HZ sg cs with
     | false,some (vs,[])=>some vs
     | _,_=>none
   | _=>none
 | some e, .row E0=>match e.x with
   | .row E l=>match Nat.beq E E0 with
     | true=>some [.c (.k (.lst E) l)]
     | false=>none
   | _=>none
 | some e, .deep E0=>match e.x with
   | .deep E n l none=>match Nat.beq E E0 with
     | true=>some [.c (.k (.int .i64) n), .c (.k (.lst E) l)]
     | false=>none
   | _=>none
 | none,_=>none
def Zq:ESp→List (DV T)→Option (DX T×List (DV T))
 | .box sg,vs=>match EQ sg vs with
   | some (cs,us)=>some (.box cs,us)
   | none=>none
 | .row E0, .c (.k (.lst E) l)::vs=>match Nat.beq E E0 with
   | true=>some (.row E l,vs)
   | false=>none
 | .deep E0, .c (.k (.int .i64) n):: .c (.k (.lst E) l)::vs=>match Nat.beq E E0 with
   | true=>some (.deep E n l none,vs)
   | false=>none
 | _,_=>none
def oI (T:Be):Kd→C→C
 | .lst F, .sl n cs=> .isl F (T.sz F) n cs
 | _,c=>c
def kD (T:Be):List Kd→List C→List C
 | k::ks,c::cs=>oI T k c::kD T ks cs
 | _,_=>[]
theorem RG: ∀ (ks:List Kd) (y:DK T.den ks),BA T ks y=kD T ks (Bv T.enc ks y)
 | [],_=>rfl
 | k::ks,y=>by
   simp only [BA,Bv,kD]
   rw [RG ks y.2]
   cases k<;>rfl
theorem ig {E:Nat} {x y:T.den E} (h:T.enc E x=T.enc E y):T.denc E x=T.denc E y:=by
 unfold Be.denc
 rw [RG,RG,T.encok,T.encok,h]
theorem UW {E:Nat} {n:Int}: ∀ {l m:List (T.den E)} {k:Int},l.length=m.length→l.flatMap (T.enc E)=m.flatMap (T.enc E)→Aw T E n k l=Aw T E n k m
 | [],[],_,_,_=>rfl
 | [],_::_,_,h,_=>by simp at h
 | _::_,[],_,h,_=>by simp at h
 | x::l,y::m,k,h,q=>by
   simp only [List.flatMap_cons]at q
   obtain⟨q1,q2⟩:=List.append_inj q (by rw [AD,AD])
   simp only [Aw]
   rw [q1,ig q1,UW (by simpa using h) q2]
def MD (l:List (DE T)):List (Ah×ESp)→Option (List (DV T))
 | []=>some []
 | (id,p)::r=>match kC l id p,MD l r with
   | some a,some b=>some (a++b)
   | _,_=>none
def Ag.addE (st:Ag T) (id:Ah) (x:DX T):Ag T:={st with so:=⟨id,st.nx,x⟩::st.so,nx:=st.nx+1}
def XI (id:Ah):List (DE T)→Bool
 | []=>false
 | e::r=>match A1 e.id id with
   | true=>true
   | false=>XI id r
theorem RH {id:Ah}: ∀ {l:List (DE T)},XI id l=false→ ∀ e∈l,e.id ≠ id
 | [],_,_,h=>by cases h
 | a::r,h,e,he=>by
   unfold XI at h
   split at h
   ·cases h
   ·rename_i hb
    rcases List.mem_cons.1 he with rfl | he
    ·intro q;rw [Az.2 q]at hb;cases hb
    ·exact RH h e he
def GH:List (Ah×ESp)→List (DV T)→Ag T→Option (Ag T×List (DV T))
 | [],vs,st=>some (st,vs)
 | (id,p)::r,vs,st=>match Zq p vs,XI id st.so with
   | some (x,us),false=>GH r us (st.addE id x)
   | _,_=>none
theorem ii {p:ESp} {vs us:List (DV T)} {x:DX T} (hv: ∀ v∈vs,cA v) (h:Zq p vs=some (x,us)):x.ok∧ ∀ v∈us,cA v:=by
 unfold Zq at h
 split at h
 ·split at h
  ·rename_i cs us1 h1
   simp only [Option.some.injEq,Prod.mk.injEq]at h
   obtain⟨rfl,rfl⟩:=h
   exact IM hv h1
  ·cases h
 ·split at h
  ·simp only [Option.some.injEq,Prod.mk.injEq]at h
   obtain⟨rfl,rfl⟩:=h
   exact⟨trivial,fun v hm=>hv v (by simp [hm])⟩
  ·cases h
 ·split at h
  ·simp only [Option.some.injEq,Prod.mk.injEq]at h
   obtain⟨rfl,rfl⟩:=h
   exact⟨trivial,fun v hm=>hv v (by simp [hm])⟩
  ·cases h
 ·cases h
theorem ij {H H1:At T} {st0 st:Ag T} (hn:Nx H st0 H1 st) {id:Ah} {x:DX T} (hx:x.ok) (hid:XI id st.so=false): ∃ H',Nx H st0 H' (st.addE id x):=by
 have he:=Cw.setE H1 st.nx ⟨id,st.nx,x⟩
 refine⟨H1.setE st.nx ⟨id,st.nx,x⟩,hn.trans ⟨he,Nat.le_succ _,?_,?_,?_,?_⟩⟩
 ·exact BB he (Nat.le_succ _) hn.ok.tm
 ·exact fun f hf=>BB he (Nat.le_succ _) (hn.ok.gh f hf)
 ·intro e hm
  rcases List.mem_cons.1 hm with rfl | hm
  ·exact⟨Nat.lt_succ_self _,by simp [At.setE],hx⟩
  ·exact Dv he (Nat.le_succ _) hn.ok.so e hm
 ·simp only [Ag.addE,List.map_cons]
  refine List.nodup_cons.2 ⟨fun hm=>?_,hn.ok.nd⟩
  obtain⟨e,h1,h2⟩:=List.mem_map.1 hm
  exact RH hid e h1 h2
theorem Jh {H:At T} {st0:Ag T}: ∀ {l:List (Ah×ESp)} {vs us:List (DV T)} {st st':Ag T} {H1:At T},Nx H st0 H1 st→(∀ v∈vs,cA v)→GH l vs st=some (st',us)→
 (∃ H',Nx H st0 H' st')∧st'.tm=st.tm∧st'.gh=st.gh∧st'.pre=st.pre∧st'.m=st.m
 | [],vs,us,st,st',H1,hn,hv,h=>by
   simp only [GH,Option.some.injEq,Prod.mk.injEq]at h
   obtain⟨rfl,rfl⟩:=h
   exact⟨⟨H1,hn⟩,rfl,rfl,rfl,rfl⟩
 | (id,p)::r,vs,us,st,st',H1,hn,hv,h=>by
   simp only [GH]at h
   split at h
   ·rename_i x us1 h1 h2
    obtain⟨a,b⟩:=ii hv h1
    obtain⟨H2,h3⟩:=ij hn a h2
    obtain⟨c1,c2,c3,c4,c5⟩:=Jh h3 b h
    exact⟨c1,c2,c3,c4,c5⟩
   ·cases h
def ik (l:List (DE T)) (e':DE T):Prop:=e'.toE∈l.map DE.toE∨ ∃ cs cs',(⟨e'.id,none,cs,false⟩:As)∈l.map DE.toE∧e'.toE=⟨e'.id,none,cs',false⟩∧DD cs cs'∧Vk cs=false
theorem cB {l:List (DE T)} {id:Ah} {p:ESp} {vs vs' us us':List (DV T)} {x:DX T} (h:kC l id p=some vs) (hw:All2 ib vs vs') (hi:Zq p (vs'++us)=some (x,us')) (t:Nat):us'=us∧ik l ⟨id,t,x⟩:=by
 unfold kC at h
 split at h
 ·rename_i e sg he
  obtain⟨m1,m2,_⟩:=Cq he
  split at h
  ·rename_i cs hx
   split at h
   ·rename_i vs1 hm h1
    injection h with h;subst h
    simp only [Zq]at hi
    split at hi
    ·rename_i cs' us1 h2
     simp only [Option.some.injEq,Prod.mk.injEq]at hi
     obtain⟨rfl,rfl⟩:=hi
     obtain⟨a,b,d⟩:=FB h1 hw h2
     simp only [Aq,List.append_nil]at b
     refine⟨a, .inr ⟨Aq cs,Aq cs',List.mem_map.2 ⟨e,m1,by rw [DE.toE_box hx,m2]⟩,rfl,b,UA hm (fun c _ kv q=>dW c kv q)⟩⟩
    ·cases hi
   ·cases h
  ·cases h
 ·rename_i e E0 he
  obtain⟨m1,m2,_⟩:=Cq he
  split at h
  ·rename_i E l' hx
   split at h
   ·rename_i hE
    have hE:=Nat.eq_of_beq_eq_true hE
    subst hE
    injection h with h;subst h
    cases hw with
    | cons k1 k2=>
      cases k2
      rcases k1 with ⟨c,c',e1,e2,e3,e4⟩ | ⟨_,_,e1,_⟩
      ·injection e1 with e1
       subst e1 e2
       simp only [List.cons_append,List.nil_append]at hi
       unfold Zq at hi
       split at hi
       ·rename_i q;cases q
       ·rename_i E0 E' l'' vs0 q1 q2
        injection q1 with q1
        subst q1
        injection q2 with q2 q3
        injection q2 with q2
        subst q2 q3
        split at hi
        ·rename_i hE
         have hE:=Nat.eq_of_beq_eq_true hE
         subst hE
         simp only [Option.some.injEq,Prod.mk.injEq]at hi
         obtain⟨rfl,rfl⟩:=hi
         refine⟨rfl, .inl (List.mem_map.2 ⟨e,m1,?_⟩)⟩
         rw [DE.toE_row hx,m2]
         simp only [DC.toC,Bd,Fk,C.sl.injEq]at e3
         simp only [DE.toE,e3.1,e3.2]
        ·cases hi
       ·exact absurd ‹ESp.row _=ESp.deep _› (by simp)
       ·cases hi
      ·cases e1
   ·cases h
  ·cases h
 ·rename_i e E0 he
  obtain⟨m1,m2,_⟩:=Cq he
  split at h
  ·rename_i E n l' hx
   split at h
   ·rename_i hE
    have hE:=Nat.eq_of_beq_eq_true hE
    subst hE
    injection h with h;subst h
    cases hw with
    | cons k1 k2=>
      cases k2 with
      | cons k3 k4=>
        cases k4
        rcases k1 with ⟨c,c',e1,e2,e3,e4⟩ | ⟨_,_,e1,_⟩
        ·rcases k3 with ⟨d,d',f1,f2,f3,f4⟩ | ⟨_,_,f1,_⟩
         ·injection e1 with e1
          injection f1 with f1
          subst e1 e2 f1 f2
          simp only [List.cons_append,List.nil_append]at hi
          unfold Zq at hi
          split at hi
          ·exact absurd ‹ESp.deep _=ESp.box _› (by simp)
          ·exact absurd ‹ESp.deep _=ESp.row _› (by simp)
          ·rename_i E1 n' E2 l'' vs0 q1 q2
           injection q1 with q1
           subst q1
           injection q2 with q2 q3
           injection q2 with q2
           injection q3 with q3 q4
           injection q3 with q3
           subst q2 q3 q4
           split at hi
           ·rename_i hE
            have hE:=Nat.eq_of_beq_eq_true hE
            subst hE
            simp only [Option.some.injEq,Prod.mk.injEq]at hi
            obtain⟨rfl,rfl⟩:=hi
            refine⟨rfl, .inl (List.mem_map.2 ⟨e,m1,?_⟩)⟩
            simp only [DC.toC,Bd,Fk,C.sl.injEq]at e3 f3
            injection e3 with _ e3
            subst e3
            unfold DE.toE
            rw [hx,m2]
            simp only [A4,f3.1,UW f3.1 f3.2]
           ·cases hi
          ·cases hi
         ·cases f1
        ·cases e1
   ·cases h
  ·cases h
 ·cases h
end Go.PL
namespace Go.PL
open Go Go.RowKit
variable {T:Be}
theorem XJ {L:List (DE T)}: ∀ {l:List (Ah×ESp)} {vs vs' us us':List (DV T)} {st st':Ag T},MD L l=some vs→All2 ib vs vs'→GH l (vs'++us) st=some (st',us')→(∀ e∈st.so,ik L e)→
 us'=us∧ ∀ e∈st'.so,ik L e
 | [],vs,vs',us,us',st,st',h,hw,hi,hs=>by
   simp only [MD,Option.some.injEq]at h
   subst h
   cases hw
   simp only [GH,List.nil_append,Option.some.injEq,Prod.mk.injEq]at hi
   obtain⟨rfl,rfl⟩:=hi
   exact⟨rfl,hs⟩
 | (id,p)::r,vs,vs',us,us',st,st',h,hw,hi,hs=>by
   simp only [MD]at h
   split at h
   ·rename_i a b h1 h2
    injection h with h;subst h
    obtain⟨x,y,rfl,k1,k2⟩:=All2.append_inv hw
    simp only [GH]at hi
    split at hi
    ·rename_i v us1 h3 h4
     rw [List.append_assoc]at h3
     obtain⟨e,hv⟩:=cB h1 k1 h3 st.nx
     subst e
     refine XJ h2 k2 hi fun e he=>?_
     rcases List.mem_cons.1 he with rfl | he
     ·exact hv
     ·exact hs e he
    ·cases hi
   ·cases h
def FC (ks:List Nat):Tm T→Tm T
 | []=>[]
 | (s,t,v)::r=>match Hj ks s with
   | true=>(s,t,v)::FC ks r
   | false=>FC ks r
def LK:List Ah→Ah→Bool
 | [],_=>false
 | a::l,b=>match A1 a b with
   | true=>true
   | false=>LK l b
def LL (ke:List Ah):List (DE T)→List (DE T)
 | []=>[]
 | e::r=>match LK ke e.id with
   | true=>e::LL ke r
   | false=>LL ke r
theorem Ji {ks:List Nat}: ∀ {tm:Tm T} {x:Nat×Nat×DV T},x∈FC ks tm→x∈tm
 | [],_,h=>h
 | (s,t,v)::r,x,h=>by
   unfold FC at h
   split at h
   ·rcases List.mem_cons.1 h with rfl | h
    ·simp
    ·simp [Ji h]
   ·simp [Ji h]
theorem KI {ks:List Nat} (i:Nat): ∀ tm:Tm T,lk (FC ks tm) i=(match Hj ks i with | true=>lk tm i | false=> .u)
 | []=>by cases Hj ks i<;>rfl
 | (s,t,v)::r=>by
   have ih:=KI (ks:=ks) i r
   unfold FC
   cases hs:Hj ks s with
   | true=>
     simp only [lk]
     cases hb:Nat.beq s i with
     | true=>
       have:=Nat.eq_of_beq_eq_true hb
       subst this
       rw [hs]
     | false=>exact ih
   | false=>
     simp only
     rw [ih]
     cases hi:Hj ks i with
     | true=>
       simp only [lk]
       cases hb:Nat.beq s i with
       | true=>
         have:=Nat.eq_of_beq_eq_true hb
         subst this
         rw [hs]at hi;cases hi
       | false=>rfl
     | false=>rfl
theorem LM {b:Ah}: ∀ {l:List Ah},LK l b=true↔b∈l
 | []=>by simp [LK]
 | a::l=>by
   unfold LK
   cases h:A1 a b with
   | true=>have:=Az.1 h;subst this;simp
   | false=>
     have:b ≠ a:=fun e=>by rw [Az.2 e.symm]at h;cases h
     simp [LM (l:=l),this]
theorem FD (ke:List Ah): ∀ l:List (DE T),(LL ke l).Sublist l∧ ∀ e∈LL ke l,e.id∈ke
 | []=>⟨List.Sublist.slnil,fun _ h=>by cases h⟩
 | e::r=>by
   obtain⟨a,b⟩:=FD ke r
   unfold LL
   split
   ·rename_i h
    refine⟨a.cons_cons _,fun x hx=>?_⟩
    rcases List.mem_cons.1 hx with rfl | hx
    ·exact LM.1 h
    ·exact b x hx
   ·exact⟨a.cons _,b⟩
def Gq.base (sh:Gq) (st:Ag T):Ag T:={st with tm:=FC sh.ks st.tm,so:=LL sh.ke st.so}
theorem Gq.base_nx {H:At T} (sh:Gq) {st:Ag T} (h:AB H st):Nx H st H (sh.base st):=
 ⟨Cw.refl _ _,Nat.le_refl _,fun s t v hm=>h.tm s t v (Ji hm),h.gh,fun e he=>h.so e ((FD _ _).1.subset he),List.Sublist.nodup ((FD _ _).1.map _) h.nd⟩
def Gq.inst (sh:Gq) (st:Ag T) (vs:List (DV T)):Option (Ag T):=match F9 sh.vs vs (sh.base st)with
 | some (s,us)=>match GH sh.es us s with
   | some (s',_)=>some s'
   | none=>none
 | none=>none
theorem Gq.inst_nx {H:At T} {sh:Gq} {st s':Ag T} (h:AB H st) {vs:List (DV T)} (hv: ∀ v∈vs,cA v) (hi:sh.inst st vs=some s'): ∃ H',Nx H st H' s':=by
 unfold Gq.inst at hi
 split at hi
 ·rename_i s us h1
  split at hi
  ·rename_i s2 us2 h2
   injection hi with hi;subst hi
   obtain⟨⟨H1,a⟩,b,_⟩:=H5 (sh.base_nx h) hv h1
   exact(Jh a b h2).1
  ·cases hi
 ·cases hi
def aQ (ks:List Nat) (tm tm0:Tm T):Bool:=match ks with
 | []=>true
 | s::r=>match Nat.beq (QS tm s) (QS tm0 s)with
   | true=>aQ r tm tm0
   | false=>false
def aR (ke:List Ah) (l l0:List (DE T)):Bool:=match ke with
 | []=>true
 | i::r=>match Fl l i,Fl l0 i with
   | some a,some b=>match Nat.beq a.tag b.tag with
     | true=>aR r l l0
     | false=>false
   | _,_=>false
def cC:Tm T→Tm T→Bool
 | [],[]=>true
 | (s,t,_)::r,(s',t',_)::r'=>match Nat.beq s s'&&Nat.beq t t' with
   | true=>cC r r'
   | false=>false
 | _,_=>false
def cD:List (Nat×Tm T)→List (Nat×Tm T)→Bool
 | [],[]=>true
 | (m,tm)::r,(m',tm')::r'=>match Nat.beq m m'&&cC tm tm' with
   | true=>cD r r'
   | false=>false
 | _,_=>false
theorem RI: ∀ {ks:List Nat} {tm tm0:Tm T},aQ ks tm tm0=true→ ∀ s,Hj ks s=true→QS tm s=QS tm0 s
 | [],_,_,_,s,hs=>by simp [Hj]at hs
 | a::r,tm,tm0,h,s,hs=>by
   unfold aQ at h
   split at h
   ·rename_i hb
    rw [Eh]at hs
    rcases List.mem_cons.1 hs with rfl | hs
    ·exact Nat.eq_of_beq_eq_true hb
    ·exact RI h s (Eh.2 hs)
   ·cases h
theorem RJ: ∀ {ke:List Ah} {l l0:List (DE T)},aR ke l l0=true→ ∀ i∈ke, ∃ a b,Fl l i=some a∧Fl l0 i=some b∧a.tag=b.tag
 | [],_,_,_,i,hi=>by cases hi
 | k::r,l,l0,h,i,hi=>by
   unfold aR at h
   split at h
   ·rename_i a b h1 h2
    split at h
    ·rename_i hb
     rcases List.mem_cons.1 hi with rfl | hi
     ·exact⟨a,b,h1,h2,Nat.eq_of_beq_eq_true hb⟩
     ·exact RJ h i hi
    ·cases h
   ·cases h
theorem UX {H H':At T} {n n':Nat} (he:Cw n H H'): ∀ {tm tm':Tm T},cC tm' tm=true→Lw H n tm→Lw H' n' tm'→tm'=tm
 | [],[],_,_,_=>rfl
 | [],_::_,h,_,_=>by simp [cC]at h
 | _::_,[],h,_,_=>by simp [cC]at h
 | (s,t,v)::r,(s',t',v')::r',h,a,b=>by
   unfold cC at h
   split at h
   ·rename_i hb
    simp only [Bool.and_eq_true,Nat.beq_eq]at hb
    obtain⟨rfl,rfl⟩:=hb
    obtain⟨a1,a2,_⟩:=a s' t' v (by simp)
    obtain⟨_,b2,_⟩:=b s' t' v' (by simp)
    have:v'=v:=by rw [←a2, ←b2,(he t' a1).1]
    subst this
    rw [UX he h (fun s t v hm=>a s t v (by simp [hm])) (fun s t v hm=>b s t v (by simp [hm]))]
   ·cases h
theorem UY {H H':At T} {n n':Nat} (he:Cw n H H'): ∀ {l l':List (Nat×Tm T)},cD l' l=true→(∀ f∈l,Lw H n f.2)→(∀ f∈l',Lw H' n' f.2)→l'=l
 | [],[],_,_,_=>rfl
 | [],_::_,h,_,_=>by simp [cD]at h
 | _::_,[],h,_,_=>by simp [cD]at h
 | (m,tm)::r,(m',tm')::r',h,a,b=>by
   unfold cD at h
   split at h
   ·rename_i hb
    simp only [Bool.and_eq_true,Nat.beq_eq]at hb
    obtain⟨rfl,hb⟩:=hb
    rw [UX he hb (a (m',tm) (by simp)) (b (m',tm') (by simp)),UY he h (fun f hm=>a f (by simp [hm])) (fun f hm=>b f (by simp [hm]))]
   ·cases h
def Ex:List Ah→Ag T→Ag T
 | [],st=>st
 | i::r,st=>match st.frz i with
   | some s=>Ex r s
   | none=>Ex r st
theorem ER {H0:At T} {st0:Ag T}: ∀ {l:List Ah} {st:Ag T} {H:At T},Nx H0 st0 H st→(∃ H',Nx H0 st0 H' (Ex l st))∧Wk st.toSt (Ex l st).toSt
 | [],st,H,h=>⟨⟨H,h⟩,Wk.less (Ck.refl _)⟩
 | i::r,st,H,h=>by
   unfold Ex
   split
   ·rename_i s hs
    obtain⟨⟨H1,a⟩,b,_⟩:=Ag.frz_spec h.ok hs
    obtain⟨c,d⟩:=ER (l:=r) (h.trans a)
    exact⟨c,Wk.trans (b▸Wk.frz _ _) d⟩
   ·exact ER (l:=r) h
def jE:List (Ah×ESp)→List Ah
 | []=>[]
 | (i,_)::r=>i::jE r
def eK (tm:Tm T):List (Nat×VSp)→List Ah
 | []=>[]
 | (s,_)::r=>US (lk tm s)++eK tm r
def V3 (l:List (DE T)):List (Ah×ESp)→List Ah
 | []=>[]
 | (i,_)::r=>match Fl l i with
   | some e=>match e.x with
     | .box cs=>UR cs++V3 l r
     | _=>V3 l r
   | none=>V3 l r
def eM (l:List Ah):List Ah→List Ah
 | []=>[]
 | i::r=>match LK l i with
   | true=>eM l r
   | false=>i::eM l r
def Gq.frz (sh:Gq) (st:Ag T):List Ah:=eM (sh.ke++jE sh.es) (eK st.tm sh.vs++V3 st.so sh.es)
def Gq.gen1 (sh:Gq) (st0 s:Ag T):Option (RT T sh.ts):=
 match aQ sh.ks s.tm st0.tm&&(aR sh.ke s.so st0.so&&(cD s.gh st0.gh&&(Nat.beq s.m st0.m&&A1 s.pre st0.pre)))with
 | true=>match Kc s.tm sh.vs,MD s.so sh.es with
   | some a,some b=>V2 sh.ts (a++b)
   | _,_=>none
 | false=>none
def Gq.gen (sh:Gq) (st0 st':Ag T):Option (RT T sh.ts):=sh.gen1 st0 (Ex (sh.frz st') st')
theorem V4 {l:List (DE T)} (hn:(l.map DE.id).Nodup): ∀ {e:DE T},e∈l→Fl l e.id=some e:=by
 induction l with
 | nil=>intro e h;cases h
 | cons a r ih=>
   intro e h
   rw [List.map_cons]at hn
   obtain⟨n1,n2⟩:=List.nodup_cons.1 hn
   unfold Fl
   split
   ·rename_i hb
    have hb:=Az.1 hb
    rcases List.mem_cons.1 h with rfl | h
    ·rfl
    ·exact absurd (List.mem_map.2 ⟨e,h,hb.symm⟩) n1
   ·rename_i hb
    rcases List.mem_cons.1 h with rfl | h
    ·rw [Az.2 rfl]at hb;cases hb
    ·exact ih n2 h
theorem Gq.gen1_ok {H H':At T} {sh:Gq} {st0 s s1:Ag T} (h0:AB H st0) (hN:Nx H st0 H' s) {x:RT T sh.ts} (hg:sh.gen1 st0 s=some x) (hi:sh.inst st0 (Cf sh.ts x)=some s1):nN s.toSt s1.toSt:=by
 unfold Gq.gen1 at hg
 split at hg
 ·rename_i hb
  simp only [Bool.and_eq_true,Nat.beq_eq]at hb
  obtain⟨k1,k2,k3,k4,k5⟩:=hb
  split at hg
  ·rename_i a b ga gb
   have hw:=O0 hg
   obtain⟨va,vb,hv,wa,wb⟩:=All2.append_inv hw
   unfold Gq.inst at hi
   split at hi
   ·rename_i s2 us h1
    split at hi
    ·rename_i s3 us2 h2
     injection hi with hi;subst hi
     rw [hv]at h1
     have hpv:=DF sh.ts x
     rw [hv]at hpv
     obtain⟨⟨H1,n1⟩,n2,n3,n4,n5,n6⟩:=H5 (sh.base_nx h0) hpv h1
     have hbase: ∀ i,RE (lk s.tm i).toV (lk (sh.base st0).tm i).toV :=by
      intro i
      show RE (lk s.tm i).toV (lk (FC sh.ks st0.tm) i).toV
      rw [KI]
      cases hm:Hj sh.ks i with
      | false=>simp only [DV.toV];intro w G u _;simp only [Ab]
      | true=>
        simp only
        have ht:=RI k1 i hm
        have:lk s.tm i=lk st0.tm i:=by
         rcases Ms st0.tm i with ⟨q1,q2⟩ | ⟨t,q1,q2⟩
         ·rw [q2]at ht
          rcases Ms s.tm i with ⟨r1,r2⟩ | ⟨t,r1,r2⟩
          ·rw [r1,q1]
          ·rw [r2]at ht;cases ht
         ·obtain⟨p1,p2⟩:=QT h0.tm q2
          obtain⟨p3,p4⟩:=QT hN.ok.tm (ht.trans q2)
          rw [←p2, ←p4,(hN.ext t p1).1]
        rw [this]
        exact RE.refl _
     obtain⟨e1,hsl⟩:=UV (us:=vb) ga wa h1 hbase
     subst e1
     have hpb: ∀ v∈us,cA v:=n2
     obtain⟨⟨H2,m1⟩,m2,m3,m4,m5⟩:=Jh n1 hpb h2
     have hso0: ∀ e∈s2.so,ik s.so e:=by
      intro e he
      rw [n3]at he
      have he:e∈LL sh.ke st0.so:=he
      have hid:=(FD sh.ke st0.so).2 e he
      have hmem:=(FD sh.ke st0.so).1.subset he
      obtain⟨a',b',q1,q2,q3⟩:=RJ k2 e.id hid
      rw [V4 h0.nd hmem]at q2
      injection q2 with q2;subst q2
      obtain⟨t1,t2,_⟩:=h0.so e hmem
      obtain⟨u1,u2,_⟩:=Cq q1
      obtain⟨v1,v2,_⟩:=hN.ok.so a' u1
      have:a'=e:=by rw [←t2, ←v2,q3,(hN.ext e.tag t1).2]
      subst this
      exact .inl (List.mem_map.2 ⟨a',u1,rfl⟩)
     have h2':GH sh.es (us++[]) s2=some (s3,us2):=by rw [List.append_nil];exact h2
     obtain⟨_,hen⟩:=XJ gb wb h2' hso0
     have hgh:=UY hN.ext k3 h0.gh hN.ok.gh
     exact {
      len:=by
       simp only [Ag.toSt,Au,List.length_map,List.length_range]
       rw [m5,n6,k4];rfl
      tm:=fun i=>by
       show RE ((Au s.m s.tm).getD i .undef) ((Au s3.m s3.tm).getD i .undef)
       rw [ID,ID,m5,n6,m2]
       have:(sh.base st0).m =s.m:=k4.symm
       rw [this]
       cases Nat.blt i s.m
       ·exact RE.refl _
       ·exact hsl i
      so:=fun e' he'=>by
       obtain⟨d,hd,rfl⟩:=List.mem_map.1 he'
       rcases hen d hd with q | ⟨cs,cs',q1,q2,q3,q4⟩
       ·exact .inl q
       ·exact .inr ⟨cs,cs',by rw [DE.toE_id];exact q1,by rw [DE.toE_id];exact q2,q3,q4⟩
      nd:=by
       have:=m1.ok.nd
       show ((s3.so.map DE.toE).map As.id).Nodup
       rw [List.map_map]
       have e:(As.id ∘ DE.toE:DE T→Ah)=DE.id:=by funext d;exact DE.toE_id d
       rw [e];exact this
      gh:=by
       simp only [Ag.toSt]
       rw [m3,n4,hgh];rfl
      pre:=by
       simp only [Ag.toSt]
       rw [m4,n5,Az.1 k5];rfl}
    ·cases hi
   ·cases hi
  ·cases hg
 ·cases hg
theorem Gq.gen_ok {H H':At T} {sh:Gq} {st0 st' s1:Ag T} (h0:AB H st0) (hN:Nx H st0 H' st') {x:RT T sh.ts} (hg:sh.gen st0 st'=some x) (hi:sh.inst st0 (Cf sh.ts x)=some s1):Wk st'.toSt s1.toSt:=by
 obtain⟨⟨H1,a⟩,b⟩:=ER (l:=sh.frz st') hN
 exact b.trans (Wk.wkn (Gq.gen1_ok h0 a hg hi))
end Go.PL
namespace Go.PL
open Go Go.RowKit
variable {T:Be}
def E5:Nat→List (DV T)→Ag T→Ag T
 | _,[],st=>st
 | i,v::vs,st=>E5 (i+1) vs (st.put (some i) v)
theorem LN {H:At T} {st0:Ag T}: ∀ {vs:List (DV T)} {i:Nat} {st:Ag T} {H1:At T},Nx H st0 H1 st→Cn H st0.nx vs→ ∃ H',Nx H st0 H' (E5 i vs st)
 | [],_,st,H1,h,_=>⟨H1,h⟩
 | v::vs,i,st,H1,h,hv=>by
   simp only [Cn]at hv
   obtain⟨H2,h2⟩:=Ag.put_spec h (some i) (DV.ok_ext h.ext h.le hv.1)
   show ∃ H',Nx H st0 H' (E5 (i+1) vs (st.put (some i) v))
   exact LN h2 hv.2
theorem Jj: ∀ (vs:List (DV T)) (i:Nat) (st:Ag T),(E5 i vs st).so =st.so∧(E5 i vs st).gh =st.gh∧(E5 i vs st).pre =st.pre∧(E5 i vs st).m =st.m
 | [],_,_=>⟨rfl,rfl,rfl,rfl⟩
 | v::vs,i,st=>Jj vs (i+1) (st.put (some i) v)
theorem LO: ∀ (vs:List (DV T)) (i:Nat) (st:Ag T) (j:Nat),lk (E5 i vs st).tm j=if i≤j∧j<i+vs.length then vs.getD (j - i) .u else lk st.tm j
 | [],i,st,j=>by
   rw [if_neg (by simp)];rfl
 | v::vs,i,st,j=>by
   rw [E5,LO vs (i+1) _ j,eJ]
   by_cases h1:i+1≤j∧j<i+1+vs.length
   ·rw [if_pos h1,if_pos ⟨by omega,by simp;omega⟩,show j - i=(j - (i+1))+1 by omega,List.getD_cons_succ]
   ·rw [if_neg h1]
    by_cases h2:i=j
    ·subst h2
     rw [if_pos rfl,if_pos ⟨by omega,by simp⟩,Nat.sub_self,List.getD_cons_zero]
    ·rw [if_neg h2,if_neg (by simp;omega)]
def Ag.enter (st:Ag T) (k:Nat) (args:List (DV T)) (n:Nat):Ag T:=E5 0 args ⟨n,[],st.so,(st.m,st.tm)::st.gh,k::st.pre,st.nx⟩
theorem eN {H:At T} {st:Ag T} (h:AB H st) (k:Nat) {args:List (DV T)} (n:Nat) (ha:Cn H st.nx args): ∃ H',Nx H st H' (st.enter k args n):=by
 refine LN (H1:=H) (st:=⟨n,[],st.so,(st.m,st.tm)::st.gh,k::st.pre,st.nx⟩) ⟨Cw.refl _ _,Nat.le_refl _,⟨fun _ _ _ hm=>by simp at hm,fun f hf=>?_,h.so,h.nd⟩⟩ ha
 rcases List.mem_cons.1 hf with rfl | hf
 ·exact h.tm
 ·exact h.gh f hf
theorem RK {m:Nat} {tm:Tm T} {vs:List (DV T)} (hl:vs.length≤m) (h: ∀ j,lk tm j=if j<vs.length then vs.getD j .u else .u):Au m tm=AO vs++List.replicate (m - (AO vs).length) .undef :=by
 rw [F4]
 apply List.ext_getElem?
 intro i
 unfold Au
 rw [List.getElem?_map]
 by_cases hi:i<vs.length
 ·rw [List.getElem?_range (by omega),List.getElem?_append_left (by rw [F4];exact hi)]
  simp only [Option.map_some,h,if_pos hi]
  rw [JZ,List.getElem?_map,List.getD_eq_getElem?_getD,List.getElem?_eq_getElem hi];rfl
 ·rw [List.getElem?_append_right (by rw [F4];omega),F4,List.getElem?_replicate]
  by_cases hm:i<m
  ·rw [List.getElem?_range hm,if_pos (by omega)]
   simp only [Option.map_some,h,if_neg hi,DV.toV]
  ·rw [List.getElem?_eq_none (by simpa using hm),if_neg (by omega)];rfl
theorem Zr {st:Ag T} {k:Nat} {args:List (DV T)} {n:Nat} (hl:args.length≤n):(st.enter k args n).toSt =st.toSt.enter k (AO args) n:=by
 obtain⟨a,b,c,d⟩:=Jj args 0 (⟨n,[],st.so,(st.m,st.tm)::st.gh,k::st.pre,st.nx⟩:Ag T)
 unfold Ag.enter
 simp only [Ag.toSt,a,b,c,d,St.enter,List.flatMap_cons]
 rw [RK hl]
 intro j
 rw [LO]
 simp only [Nat.zero_le,true_and,Nat.zero_add,Nat.sub_zero]
 rfl
def Ag.back (st st0:Ag T) (d:Option Nat) (v:DV T):Option (Ag T):=match st.gh with
 | (m',tm')::g=>match Nat.beq m' st0.m with
   | true=>some (({st with m:=m',tm:=tm',gh:=g,pre:=st0.pre}:Ag T).put d v)
   | false=>none
 | []=>none
theorem Bf (m:Nat) (tm:Tm T):(Au m tm).length =m:=by simp [Au]
theorem cE {H H1:At T} {st st0 b:Ag T} {d:Option Nat} {v:DV T} (hN:Nx H st0 H1 st) (hv:v.ok H1 st.nx) (h:st.back st0 d v=some b):(∃ H',Nx H st0 H' b)∧b.toSt=st.toSt.back st0.m st0.pre d v.toV∧b.pre=st0.pre:=by
 unfold Ag.back at h
 split at h
 ·rename_i m' tm' g hg
  split at h
  ·rename_i hm
   have hm:=Nat.eq_of_beq_eq_true hm
   injection h with h;subst h
   have hgh:=hN.ok.gh
   rw [hg]at hgh
   have n1:Nx H st0 H1 ({st with m:=m',tm:=tm',gh:=g,pre:=st0.pre}:Ag T):=⟨hN.ext,hN.le,hgh (m',tm') (by simp),fun f hf=>hgh f (by simp [hf]),hN.ok.so,hN.ok.nd⟩
   refine⟨Ag.put_spec n1 d hv,?_,by rw [AL]⟩
   rw [Ag.put_toSt]
   have e1:st.toSt.gh=Au m' tm'++g.flatMap (fun f=>Au f.1 f.2):=by
    simp only [Ag.toSt,hg,List.flatMap_cons]
   unfold St.back
   rw [e1, ←hm]
   have e2:(Au m' tm').length =m':=Bf _ _
   have t1:(Au m' tm'++g.flatMap (fun f=>Au f.1 f.2)).take m'=Au m' tm':=by
    conv=>lhs;arg 1;rw [←e2]
    exact List.take_left
   have t2:(Au m' tm'++g.flatMap (fun f=>Au f.1 f.2)).drop m'=g.flatMap (fun f=>Au f.1 f.2):=by
    conv=>lhs;arg 1;rw [←e2]
    exact List.drop_left
   rw [t1,t2]
   rfl
  ·cases h
 ·cases h
def O1 (P:Program) (st:Ag T):ResultVar→M (DV T)
 | .tmp t=> .ret (st.get t)
 | .cell t Ty=>Xo P Ty [] st (st.get t)
def Zs (P:Program) (st:Ag T):List ResultVar→M (List (DV T))
 | []=> .ret []
 | x::xs=> .bnd (O1 P st x) fun v=> .bnd (Zs P st xs) fun vs=> .ret (v::vs)
def eO (P:Program) (st:Ag T):List ResultVar→M (DV T)
 | [x]=>O1 P st x
 | xs=> .bnd (Zs P st xs) fun vs=> .ret (.tup vs)
section
variable {H:At T} {P:Program} {st:Ag T}
theorem HC (hw:AB H st) (x:ResultVar):Yl (O1 P st x) (fun v=>v.ok H st.nx∧(KS P st.toSt x).1∧(KS P st.toSt x).2=v.toV):=by
 cases x with
 | tmp t=>exact Yl.ret ⟨Ag.get_ok hw t,trivial,by simp only [KS];exact st.get_toSt t⟩
 | cell t Ty=>
   refine(Q5 (key:=[]) hw (fun _=>Ag.get_ok hw t)).mono fun v hv=>?_
   obtain⟨a,b,c⟩:=hv rfl
   simp only [KS,st.get_toSt]
   exact⟨a,b,c⟩
theorem UZ (hw:AB H st): ∀ xs:List ResultVar,Yl (Zs P st xs) (fun vs=>Cn H st.nx vs∧(Ch P st.toSt xs).1∧(Ch P st.toSt xs).2=AO vs)
 | []=>Yl.ret ⟨by simp only [Cn],trivial,by simp only [Ch,AO]⟩
 | x::xs=>Yl.bnd (HC hw x) fun v hv=>Yl.bnd (UZ hw xs) fun vs hvs=>Yl.ret (by
   obtain⟨a,b,c⟩:=hv
   obtain⟨a',b',c'⟩:=hvs
   simp only [Cn,Ch,AO,c,c']
   exact⟨⟨a,a'⟩,⟨b,b'⟩,trivial⟩)
theorem io (hw:AB H st) (xs:List ResultVar):Yl (eO P st xs) (fun v=>v.ok H st.nx∧(Cd P st.toSt xs).1∧(Cd P st.toSt xs).2=v.toV):=by
 unfold eO
 split
 ·rename_i x
  exact HC hw x
 ·rename_i hne
  refine Yl.bnd (UZ hw _) fun vs hvs=>Yl.ret ?_
  obtain⟨a,b,c⟩:=hvs
  have:Cd P st.toSt xs=((Ch P st.toSt xs).1, .tup (Ch P st.toSt xs).2):=by
   unfold Cd
   split
   ·rename_i x;exact(hne x rfl).elim
   ·rfl
  rw [this]
  simp only [DV.ok,DV.toV,c]
  exact⟨a,b,trivial⟩
end
def Zt:Option (DC T)→Bool
 | some (.c .nils)=>true
 | _=>false
def Ag.own (st:Ag T) (i:Ah) (j:Nat) (k:Ah) (E:Nat):Option (Ag T):=match st.new k (.row E [])with
 | some s=>match HW s i with
   | some cs=>match Zt cs[j]? with
     | true=>some (s.setX i (.box (cs.set j (.c (.osl k)))))
     | false=>none
   | none=>none
 | none=>none
theorem XK {o:Option (DC T)} (h:Zt o=true):o=some (.c .nils):=by
 unfold Zt at h
 split at h
 ·rfl
 ·cases h
theorem eP {H:At T} {st st':Ag T} {i k:Ah} {j E:Nat} (h:AB H st) (ho:st.own i j k E=some st'):(∃ H',Nx H st H' st')∧Wk st.toSt st'.toSt∧st'.pre=st.pre:=by
 unfold Ag.own at ho
 split at ho
 ·rename_i s hs
  split at ho
  ·rename_i cs hb
   split at ho
   ·rename_i hn
    injection ho with ho;subst ho
    obtain⟨⟨H1,n1⟩,h2,h3⟩:=Ag.new_spec h (x:= .row E []) trivial hs
    have hc:=XK hn
    have hok:(DX.box (cs.set j (.c (.osl k)))).ok :=BV.2 fun c hm=>by
     rcases List.mem_or_eq_of_mem_set hm with q | q
     ·exact BV.1 (Mu n1.ok hb) c q
     ·subst q;simp only [DC.ok]
    obtain⟨H2,n2⟩:=Ag.setX_nx n1.ok i hok
    refine⟨⟨H2,n1.trans n2⟩,?_,h3⟩
    obtain⟨hl,_,e,e1,e2,e3⟩:=Fw hb
    have hnil:s.toSt.nilAt i j=true:=by
     unfold St.nilAt
     rw [hl]
     have:(Aq cs)[j]? =some .nils :=by rw [BK,List.getElem?_map,hc];rfl
     simp only [this];rfl
    have hset:(s.setX i (.box (cs.set j (.c (.osl k))))).toSt =s.toSt.setCell i j (.osl k):=by
     have hF:=Rm (t:=s.nx) (x:= .box (cs.set j (.c (.osl k)))) (F:=fun e=>if e.id==i&& !e.pu then⟨e.id,e.row,e.cs.set j (.osl k),false⟩else e) (id:=i)
      (fun a ha=>by simp [ha]) n1.ok.nd e1 e2 (by
       rw [DE.toE_box e3]
       simp only [e2,beq_self_eq_true,Bool.not_false,Bool.and_self,if_true,DE.toE,BK,List.map_set,DC.toC])
     simp only [Ag.toSt,Ag.setX,St.setCell,St.mk.injEq,and_true,true_and]
     exact hF.symm
    intro F a w G hR
    have q1:=hR.nilRow k E (T.sz E)
    rw [hset]
    have e5:(⟨k,0,DX.row E []⟩:DE T).toE =⟨k,some (E,T.sz E,0),[],true⟩:=rfl
    rw [e5]at h2
    exact⟨_,(q1.less h2).setCell hnil (by simp [BS])⟩
   ·cases ho
  ·cases ho
 ·cases ho
def XL:List (Ah×Nat×Ah×Nat)→Ag T→Option (Ag T)
 | [],st=>some st
 | (i,j,k,E)::r,st=>match st.own i j k E with
   | some s=>XL r s
   | none=>none
theorem U0 {H0:At T} {st0:Ag T}: ∀ {l:List (Ah×Nat×Ah×Nat)} {st st':Ag T} {H:At T},Nx H0 st0 H st→XL l st=some st'→(∃ H',Nx H0 st0 H' st')∧Wk st.toSt st'.toSt∧st'.pre=st.pre
 | [],st,st',H,hN,h=>by
   simp only [XL,Option.some.injEq]at h
   subst h
   exact⟨⟨H,hN⟩,Wk.less (Ck.refl _),rfl⟩
 | (i,j,k,E)::r,st,st',H,hN,h=>by
   simp only [XL]at h
   split at h
   ·rename_i s hs
    obtain⟨⟨H1,n1⟩,w1,p1⟩:=eP hN.ok hs
    obtain⟨a,b,c⟩:=U0 (hN.trans n1) h
    exact⟨a,w1.trans b,c.trans p1⟩
   ·cases h
end Go.PL
namespace Go.PL
open Go Go.RowKit
variable {T:Be}
mutual
def DC.menP (p:Ah→Bool):DC T→Bool
 | .c x=>x.menP p
 | .rp i _ _ _=>p i
 | .ap i _ _ _ _ _=>p i
 | .bs i _ _ _=>p i
 | .clo _ _ cs=>LP p cs
 | .k _ _=>false
 | .ip .. =>false
def LP (p:Ah→Bool):List (DC T)→Bool
 | []=>false
 | c::cs=>match c.menP p with
   | true=>true
   | false=>LP p cs
end
mutual
theorem DC.menP_eq (p:Ah→Bool): ∀ c:DC T,c.menP p=c.toC.menP p
 | .c x=>by simp only [DC.menP,DC.toC]
 | .rp .. =>by simp only [DC.menP,DC.toC,C.menP]
 | .ap .. =>by simp only [DC.menP,DC.toC,C.menP]
 | .bs .. =>by simp only [DC.menP,DC.toC,C.menP]
 | .clo true _ cs=>by simp only [DC.menP,DC.toC,C.menP,ES p cs]
 | .clo false _ cs=>by simp only [DC.menP,DC.toC,C.menP,ES p cs]
 | .k kd x=>by cases kd<;>simp only [DC.menP,DC.toC,Bd,C.menP]
 | .ip .. =>by simp only [DC.menP,DC.toC,C.menP]
theorem ES (p:Ah→Bool): ∀ cs:List (DC T),LP p cs=CO p (Aq cs)
 | []=>by simp only [LP,Aq,CO]
 | c::cs=>by
   simp only [LP,Aq,CO,DC.menP_eq p c,ES p cs]
   cases c.toC.menP p<;>rfl
end
mutual
def DV.menP (p:Ah→Bool):DV T→Bool
 | .c x=>x.menP p
 | .agg cs=>LP p cs
 | .tup vs=>V5 p vs
 | .g _ v=>v.menP p
 | .u =>false
def V5 (p:Ah→Bool):List (DV T)→Bool
 | []=>false
 | v::vs=>match v.menP p with
   | true=>true
   | false=>V5 p vs
end
mutual
theorem DV.menP_le (p:Ah→Bool): ∀ v:DV T,v.menP p=false→v.toV.menP p=false
 | .c x,h=>by simpa only [DV.menP,DV.toV,V.menP,DC.menP_eq] using h
 | .agg cs,h=>by simpa only [DV.menP,DV.toV,V.menP,ES] using h
 | .tup vs,h=>by simp only [DV.menP]at h;simp only [DV.toV,V.menP];exact U1 p vs h
 | .g k v,h=>by simp only [DV.menP]at h;simp only [DV.toV,V.menP,DV.menP_le p v h]
 | .u,_=>by simp only [DV.toV,V.menP]
theorem U1 (p:Ah→Bool): ∀ vs:List (DV T),V5 p vs=false→JY p (AO vs)=false
 | [],_=>by simp only [AO,JY]
 | v::vs,h=>by
   simp only [V5]at h
   split at h
   ·cases h
   ·rename_i hv
    simp only [AO,JY,DV.menP_le p v hv,U1 p vs h,Bool.or_self]
end
def Jk (p:Ah→Bool) (c:DC T):DC T:=match c.menP p with
 | true=> .c .any
 | false=>c
def DX.menP (p:Ah→Bool):DX T→Bool
 | .box cs=>LP p cs
 | .row _ _=>false
 | .deep .. =>false
def KJ (p:Ah→Bool):DX T→DX T
 | .box cs=> .box (cs.map (Jk p))
 | x=>x
theorem LQ {p:Ah→Bool} {c:DC T} (h:c.ok):(Jk p c).ok :=by
 unfold Jk
 split
 ·simp only [DC.ok]
 ·exact h
theorem Ke (p:Ah→Bool) (c:DC T):(Jk p c).toC =Cz p c.toC:=by
 unfold Jk Cz
 rw [DC.menP_eq]
 cases c.toC.menP p<;>simp [DC.toC]
theorem KK {p:Ah→Bool} {v:V} (h:v.menP p=false):BR p v=v:=by unfold BR;rw [if_neg (by simp [h])]
theorem NC {p:Ah→Bool}: ∀ {l:List C},CO p l=false→l.map (Cz p)=l
 | [],_=>rfl
 | c::l,h=>by
   simp only [CO,Bool.or_eq_false_iff]at h
   rw [List.map_cons,NC h.2,Cz,if_neg (by simp [h.1])]
theorem XM {p:Ah→Bool} {e:DE T} (t:Nat):(⟨e.id,t,KJ p e.x⟩:DE T).toE =As.killP p e.toE:=by
 unfold DE.toE
 cases hxx:e.x with
 | box cs=>
   simp only [KJ,As.killP,BK,List.map_map,As.mk.injEq,and_true,true_and]
   exact List.map_congr_left fun c _=>Ke p c
 | row E l=>rfl
 | deep E n l h=>rfl
theorem cF {p:Ah→Bool} {e:DE T} (h:e.x.menP p=false):As.killP p e.toE=e.toE:=by
 unfold DE.toE
 cases hxx:e.x with
 | box cs=>
   rw [hxx]at h
   simp only [DX.menP,ES]at h
   simp only [As.killP,NC h]
 | row E l=>rfl
 | deep E n l h=>rfl
theorem U2 {p:Ah→Bool} {m n:Nat} {tm:Tm T}:Ip ((Au m tm).map (BR p)) (Au m (KU (DV.menP p) (fun _=> .u) n tm)):=by
 unfold Au
 rw [List.map_map]
 refine Ip.map fun i _=>?_
 simp only [Function.comp,Jd (p:=DV.menP p) (f:=fun _=>DV.u) (by simp [DV.menP])]
 split
 ·exact .inl (by simp only [DV.toV])
 ·rename_i h;exact .inr (KK (DV.menP_le p _ h)).symm
theorem eQ {p:Ah→Bool}: ∀ (l:List (Nat×Tm T)) (n:Nat),Ip ((l.flatMap fun f=>Au f.1 f.2).map (BR p)) ((LA (DV.menP p) (fun _=> .u) n l).flatMap fun f=>Au f.1 f.2)
 | [],_=>trivial
 | (m,tm)::r,n=>by
   simp only [LA,List.flatMap_cons,List.map_append]
   exact U2.append (eQ r _)
def Ag.killF (st:Ag T) (p:Ah→Bool):Ag T:=let s:=st.remap (DV.menP p) (fun _=> .u) (DX.menP p) (KJ p);{s with so:=s.so.filter fun e=> !(p e.id)}
theorem XN (p:Ah→Bool) (l:List (DE T)):(l.filter fun e=> !(p e.id)).map DE.toE=(l.map DE.toE).filter fun e=> !(p e.id):=by
 induction l with
 | nil=>rfl
 | cons e l ih=>
   simp only [List.filter_cons,List.map_cons,DE.toE_id]
   cases p e.id with
   | true=>simp only [Bool.not_true,Bool.false_eq_true,if_false];exact ih
   | false=>simp only [Bool.not_false,if_true,List.map_cons];rw [ih]
theorem V6 (p:Ah→Bool) (l:List As):(l.map (As.killP p)).filter (fun e=> !(p e.id))=(l.filter (fun e=> !(p e.id))).map (As.killP p):=by
 induction l with
 | nil=>rfl
 | cons e l ih=>
   simp only [List.filter_cons,List.map_cons,As.killP_id]
   split
   ·rw [ih,List.map_cons]
   ·exact ih
theorem Ag.killF_spec {H:At T} {st:Ag T} (h:AB H st) (p:Ah→Bool):(∃ H',Nx H st H' (st.killF p))∧Ip (st.toSt.tm.map (BR p)) (st.killF p).toSt.tm ∧Ip (st.toSt.gh.map (BR p)) (st.killF p).toSt.gh ∧
 (st.killF p).toSt.so =(st.toSt.so.filter fun e=> !(p e.id)).map (As.killP p)∧(st.killF p).pre =st.pre∧ ∀ e∈(st.killF p).so,p e.id=false:=by
 obtain⟨H',hN⟩:=Ag.remap_nx (p:=DV.menP p) (f:=fun _=> .u) (q:=DX.menP p) (g:=KJ p) h (fun _=>by simp only [DV.ok]) (fun {x} hx=>by
  cases x with
  | box cs=>
    simp only [KJ,DX.ok]at hx ⊢
    refine BV.2 fun c hc=>?_
    obtain⟨d,h1,rfl⟩:=List.mem_map.1 hc
    exact LQ (BV.1 hx d h1)
  | row E l=>exact hx
  | deep E n l h=>exact hx)
 refine⟨⟨H',hN.ext,hN.le,Dw hN.ok _⟩,U2,eQ _ _,?_,rfl,fun e he=>?_⟩
 ·show ((LB (DX.menP p) (KJ p) (st.nx+st.tm.length+JB st.gh) st.so).filter fun e=> !(p e.id)).map DE.toE=_
  rw [XN,J3 (F:=As.killP p) _ (fun e _=>⟨fun _ t=>XM t,fun hm=>cF hm⟩)]
  exact V6 p _
 ·have:=(List.mem_filter.1 he).2
  simpa using this
def Bm:List (Ah×DX T)→Ag T→Ag T
 | [],st=>st
 | (i,x)::r,st=>let s:=Bm r st;{s with so:=⟨i,s.nx,x⟩::s.so,nx:=s.nx+1}
def TB (p:Ah×DX T):As:=(⟨p.1,0,p.2⟩:DE T).toE
theorem aS (i:Ah) (t:Nat) (x:DX T):(⟨i,t,x⟩:DE T).toE =TB (i,x):=by
 unfold TB DE.toE
 cases x<;>rfl
theorem EU: ∀ (l:List (Ah×DX T)) (st:Ag T),(Bm l st).tm =st.tm∧(Bm l st).gh =st.gh∧(Bm l st).pre =st.pre∧(Bm l st).m =st.m∧(Bm l st).toSt.so =l.map TB++st.toSt.so∧(Bm l st).so.map DE.id=l.map (·.1)++st.so.map DE.id
 | [],st=>⟨rfl,rfl,rfl,rfl,rfl,rfl⟩
 | (i,x)::r,st=>by
   obtain⟨a,b,c,d,e,f⟩:=EU r st
   refine⟨a,b,c,d,?_,?_⟩
   ·simp only [Bm,Ag.toSt,List.map_cons,aS,List.cons_append,List.cons.injEq,true_and]
    exact e
   ·simp only [Bm,List.map_cons,List.cons_append,List.cons.injEq,true_and]
    exact f
theorem IP {H:At T} {st0 st:Ag T}: ∀ {l:List (Ah×DX T)} {H1:At T},Nx H st0 H1 st→(∀ p∈l,p.2.ok)→(l.map (·.1)).Nodup →(∀ p∈l, ∀ e∈st.so,e.id ≠ p.1)→ ∃ H',Nx H st0 H' (Bm l st)
 | [],H1,hn,_,_,_=>⟨H1,hn⟩
 | (i,x)::r,H1,hn,hx,hd,hf=>by
   simp only [List.map_cons,List.nodup_cons]at hd
   obtain⟨H2,h2⟩:=IP hn (fun p hp=>hx p (by simp [hp])) hd.2 (fun p hp=>hf p (by simp [hp]))
   have he:=Cw.setE H2 (Bm r st).nx ⟨i,(Bm r st).nx,x⟩
   refine⟨H2.setE (Bm r st).nx ⟨i,(Bm r st).nx,x⟩,h2.trans ⟨he,Nat.le_succ _,?_,?_,?_,?_⟩⟩
   ·exact BB he (Nat.le_succ _) h2.ok.tm
   ·exact fun f hm=>BB he (Nat.le_succ _) (h2.ok.gh f hm)
   ·intro e hm
    rcases List.mem_cons.1 hm with rfl | hm
    ·exact⟨Nat.lt_succ_self _,by simp [At.setE],hx (i,x) (by simp)⟩
    ·exact Dv he (Nat.le_succ _) h2.ok.so e hm
   ·show (i::(Bm r st).so.map DE.id).Nodup
    refine List.nodup_cons.2 ⟨fun hm=>?_,h2.ok.nd⟩
    rw [(EU r st).2.2.2.2.2]at hm
    rcases List.mem_append.1 hm with hm | hm
    ·exact hd.1 hm
    ·obtain⟨e,h3,h4⟩:=List.mem_map.1 hm
     exact hf (i,x) (by simp) e h3 h4
def iq (m:Nat) (id:Ah):(k:Kd)→KA T.den k→List (Ah×DX T)
 | .lst E,l=>match m with
   | 1=>[(id, .row E l)]
   | 2=>[(1000003::id, .deep E (List.length l:Nat) l none)]
   | _=>[]
 | _,_=>[]
def XO:List Nat→Nat→Ah→(ks:List Kd)→DK T.den ks→List (Ah×DX T)
 | m::ms,i,suf,k::ks,x=>iq m (i::suf) k x.1++XO ms (i+1) suf ks x.2
 | _,_,_,_,_=>[]
def aU:List (List Nat)→Nat→Ah→(ts:List VT)→RT T ts→List (Ah×DX T)
 | m::_,p,suf,[t],x=>XO m 0 (p::suf) (C5 T t) (JJ t x)
 | m::ms,p,suf,t::u::ts,x=>XO m 0 (p::suf) (C5 T t) (JJ t x.1)++aU ms (p+1) suf (u::ts) x.2
 | _,_,_,_,_=>[]
def cG (m:Nat) (id:Ah) (k:Kd) (x:KA T.den k):DC T:=match JI m k with
 | 0=> .k k x
 | _=>match m with
   | 2=> .c (.osl (1000003::id))
   | _=> .c (.osl id)
def ND:List Nat→Nat→Ah→(ks:List Kd)→DK T.den ks→List (DC T)
 | m::ms,i,suf,k::ks,x=>cG m (i::suf) k x.1::ND ms (i+1) suf ks x.2
 | [],i,suf,k::ks,x=> .k k x.1::ND [] i suf ks x.2
 | _,_,_,[],_=>[]
def Po (m:List Nat) (suf:Ah):(t:VT)→DA T t→DV T
 | .k kd,x=> .c (cG (m.headD 0) (0::suf) kd x)
 | .s E,x=> .agg (ND m 0 suf (T.ks E) (T.un E x))
 | .f g,_=> .c (.c (.fn g))
def JK:List (List Nat)→Nat→Ah→(ts:List VT)→RT T ts→List (DV T)
 | m::_,p,suf,[t],x=>[Po m (p::suf) t x]
 | [],p,suf,[t],x=>[Po [] (p::suf) t x]
 | m::ms,p,suf,t::u::ts,x=>Po m (p::suf) t x.1::JK ms (p+1) suf (u::ts) x.2
 | [],p,suf,t::u::ts,x=>Po [] (p::suf) t x.1::JK [] (p+1) suf (u::ts) x.2
 | _,_,_,[],_=>[]
def lY (ow:List (List Nat)) (suf:Ah) (ts:List VT) (x:RT T ts):DV T:=match JK ow 0 suf ts x with
 | [v]=>v
 | vs=> .tup vs
theorem IQ (m:Nat) (id:Ah) (k:Kd) (x:KA T.den k):(Hx m k x).length =(Pn m id k).length ∧(Pn m id k).length =JI m k:=by
 cases k with
 | lst E=>
   match m with
   | 0=>exact⟨rfl,rfl⟩
   | 1=>exact⟨rfl,rfl⟩
   | 2=>exact⟨rfl,rfl⟩
   | _+3=>exact⟨rfl,rfl⟩
 | _=>exact⟨rfl,rfl⟩
theorem GI: ∀ {a b:List OE} {i j:List Ah},a.length=i.length→Cr (a++b) (i++j)=Cr a i++Cr b j
 | [],_,[],_,_=>rfl
 | [],_,_::_,_,h=>by simp at h
 | _::_,_,[],_,h=>by simp at h
 | o::a,b,x::i,j,h=>by simp only [List.cons_append,Cr,GI (a:=a) (i:=i) (by simpa using h)]
theorem cH (m:Nat) (id:Ah) (k:Kd) (x:KA T.den k):(iq m id k x).map TB=Cr (Hx m k x) (Pn m id k)∧(iq m id k x).map (·.1)=Pn m id k∧ ∀ p∈iq m id k x,p.2.ok:=by
 cases k with
 | lst E=>
   match m with
   | 0=>exact⟨rfl,rfl,fun p hp=>by cases hp⟩
   | 1=>exact⟨rfl,rfl,fun p hp=>by rcases List.mem_singleton.1 hp with rfl;trivial⟩
   | 2=>exact⟨rfl,rfl,fun p hp=>by rcases List.mem_singleton.1 hp with rfl;trivial⟩
   | _+3=>exact⟨rfl,rfl,fun p hp=>by cases hp⟩
 | _=>exact⟨rfl,rfl,fun p hp=>by cases hp⟩
theorem Jl: ∀ (ms:List Nat) (i:Nat) (suf:Ah) (ks:List Kd) (x:DK T.den ks),(B8 ms ks x).length =(Hy ms i suf ks).length ∧(Hy ms i suf ks).length =El ms ks
 | [],_,_,_,_=>⟨rfl,rfl⟩
 | _::_,_,_,[],_=>⟨rfl,rfl⟩
 | m::ms,i,suf,k::ks,x=>by
   obtain⟨a,b⟩:=Jl ms (i+1) suf ks x.2
   obtain⟨c,d⟩:=IQ m (i::suf) k x.1
   simp only [B8,Hy,El,List.length_append,a,b,c,d,and_self]
theorem NE: ∀ (ms:List Nat) (i:Nat) (suf:Ah) (ks:List Kd) (x:DK T.den ks),(XO ms i suf ks x).map TB=Cr (B8 ms ks x) (Hy ms i suf ks)∧(XO ms i suf ks x).map (·.1)=Hy ms i suf ks∧ ∀ p∈XO ms i suf ks x,p.2.ok
 | [],_,_,_,_=>⟨rfl,rfl,fun p hp=>by cases hp⟩
 | _::_,_,_,[],_=>⟨rfl,rfl,fun p hp=>by cases hp⟩
 | m::ms,i,suf,k::ks,x=>by
   obtain⟨a,b,c⟩:=NE ms (i+1) suf ks x.2
   obtain⟨a',b',c'⟩:=cH m (i::suf) k x.1
   refine⟨?_,?_,fun p hp=>?_⟩
   ·simp only [XO,B8,Hy,List.map_append,a,a',GI (IQ m (i::suf) k x.1).1]
   ·simp only [XO,Hy,List.map_append,b,b']
   ·rcases List.mem_append.1 hp with hp | hp
    ·exact c' p hp
    ·exact c p hp
theorem XP: ∀ (ow:List (List Nat)) (p:Nat) (suf:Ah) (ts:List VT) (x:RT T ts),(aU ow p suf ts x).map TB=Cr (CR ow ts x) (P5 T ow p suf ts)∧(aU ow p suf ts x).map (·.1)=P5 T ow p suf ts∧ ∀ q∈aU ow p suf ts x,q.2.ok
 | [],_,_,[],_=>⟨rfl,rfl,fun q hq=>by cases hq⟩
 | [],_,_,[_],_=>⟨rfl,rfl,fun q hq=>by cases hq⟩
 | [],_,_,_::_::_,_=>⟨rfl,rfl,fun q hq=>by cases hq⟩
 | _::_,_,_,[],_=>⟨rfl,rfl,fun q hq=>by cases hq⟩
 | m::ms,p,suf,[t],x=>by
   obtain⟨a,b,c⟩:=NE m 0 (p::suf) (C5 T t) (JJ t x)
   have e:P5 T (m::ms) p suf [t]=Hy m 0 (p::suf) (C5 T t):=by
    cases ms<;>simp [P5]
   rw [e]
   exact⟨a,b,c⟩
 | m::ms,p,suf,t::u::ts,x=>by
   obtain⟨a,b,c⟩:=NE m 0 (p::suf) (C5 T t) (JJ t x.1)
   obtain⟨a',b',c'⟩:=XP ms (p+1) suf (u::ts) x.2
   refine⟨?_,?_,fun q hq=>?_⟩
   ·simp only [aU,CR,List.map_append,a,a']
    rw [P5,GI (Jl m 0 (p::suf) (C5 T t) (JJ t x.1)).1]
   ·simp only [aU,List.map_append,b,b']
    rw [P5]
   ·rcases List.mem_append.1 hq with hq | hq
    ·exact c q hq
    ·exact c' q hq
theorem XQ {pre:List Ah} {n:Ah} {post:List Ah}:(pre++([n]++post)).getD pre.length []=n:=by
 simp [List.getD_eq_getElem?_getD]
theorem NF (m:Nat) (id:Ah) (k:Kd) (x:KA T.den k) (pre post:List Ah):(cG m id k x).toC =(K4 m pre.length k x).toC (pre++(Pn m id k++post)):=by
 unfold cG K4 Pn
 cases h:JI m k with
 | zero=>simp only [PC.toC,DC.toC]
 | succ q=>
   simp only [PC.toC]
   split<;>simp only [DC.toC,XQ]
theorem NG: ∀ (ms:List Nat) (i:Nat) (suf:Ah) (ks:List Kd) (x:DK T.den ks) (pre post:List Ah),Aq (ND ms i suf ks x)=(Ek ms pre.length ks x).map (PC.toC (pre++(Hy ms i suf ks++post)))
 | [],_,_,[],_,_,_=>by simp [ND,Ek,Aq]
 | _::_,_,_,[],_,_,_=>by simp [ND,Ek,Aq]
 | [],i,suf,k::ks,x,pre,post=>by
   have:=NG [] i suf ks x.2 pre post
   simp only [ND,Ek,Aq,List.map_cons,PC.toC,DC.toC,List.cons.injEq,true_and]
   exact this
 | m::ms,i,suf,k::ks,x,pre,post=>by
   have h1:=NF m (i::suf) k x.1 pre (Hy ms (i+1) suf ks++post)
   have h2:=NG ms (i+1) suf ks x.2 (pre++Pn m (i::suf) k) post
   rw [List.length_append,(IQ m (i::suf) k x.1).2]at h2
   simp only [ND,Ek,Aq,List.map_cons,Hy,List.append_assoc,List.cons.injEq]
   exact⟨h1,by rw [h2];simp only [List.append_assoc]⟩
theorem KL (m:List Nat) (suf:Ah) (t:VT) (x:DA T t) (pre post:List Ah):(Po m suf t x).toV =(Gz m pre.length t x).toV (pre++(Hy m 0 suf (C5 T t)++post)):=by
 cases t with
 | k kd=>
   simp only [Po,Gz,PP.toV,DV.toV,C5]
   cases m with
   | nil=>
     have:=NF 0 (0::suf) kd x pre post
     have e:Pn 0 (0::suf) kd=[]:=by unfold Pn JI;cases kd<;>rfl
     rw [e]at this
     simp only [List.headD_nil,Hy]
     rw [this]
   | cons a m=>
     have:=NF a (0::suf) kd x pre post
     have e:Hy (a::m) 0 suf [kd]=Pn a (0::suf) kd:=by cases m<;>simp [Hy]
     simp only [List.headD_cons]
     rw [e,this]
 | s E=>simp only [Po,Gz,PP.toV,DV.toV,NG m 0 suf (T.ks E) (T.un E x) pre post,C5]
 | f g=>simp only [Po,Gz,PP.toV,DV.toV,DC.toC,PC.toC]
theorem NH: ∀ (ow:List (List Nat)) (p:Nat) (suf:Ah) (ts:List VT) (x:RT T ts) (pre post:List Ah),AO (JK ow p suf ts x)=(BL ow pre.length ts x).map (PP.toV (pre++(P5 T ow p suf ts++post)))
 | [],_,_,[],_,_,_=>by simp [JK,BL,AO]
 | _::_,_,_,[],_,_,_=>by simp [JK,BL,AO]
 | [],p,suf,[t],x,pre,post=>by
   have:=KL [] (p::suf) t x pre post
   have e:Hy [] 0 (p::suf) (C5 T t)=[]:=by cases C5 T t<;>rfl
   rw [e]at this
   simp only [JK,BL,AO,List.map_cons,List.map_nil,this,P5]
 | m::ms,p,suf,[t],x,pre,post=>by
   have:=KL m (p::suf) t x pre post
   have e:P5 T (m::ms) p suf [t]=Hy m 0 (p::suf) (C5 T t):=by cases ms<;>simp [P5]
   simp only [JK,BL,AO,List.map_cons,List.map_nil,this,e]
 | [],p,suf,t::u::ts,x,pre,post=>by
   have h1:=KL [] (p::suf) t x.1 pre post
   have e:Hy [] 0 (p::suf) (C5 T t)=[]:=by cases C5 T t<;>rfl
   rw [e]at h1
   have h2:=NH [] (p+1) suf (u::ts) x.2 pre post
   simp only [JK,BL,AO,List.map_cons,h1,h2,P5]
 | m::ms,p,suf,t::u::ts,x,pre,post=>by
   have h1:=KL m (p::suf) t x.1 pre (P5 T ms (p+1) suf (u::ts)++post)
   have h2:=NH ms (p+1) suf (u::ts) x.2 (pre++Hy m 0 (p::suf) (C5 T t)) post
   rw [List.length_append,(Jl m 0 (p::suf) (C5 T t) (JJ t x.1)).2]at h2
   simp only [JK,BL,AO,List.map_cons,P5,h1,h2,List.append_assoc]
theorem eR (ow:List (List Nat)) (suf:Ah) (ts:List VT) (x:RT T ts):(lY ow suf ts x).toV =JH (P5 T ow 0 suf ts) (BL ow 0 ts x):=by
 have h:=NH ow 0 suf ts x [] []
 simp only [List.length_nil,List.nil_append,List.append_nil]at h
 unfold lY JH
 split
 ·rename_i v hv
  rw [hv]at h
  simp only [AO]at h
  split
  ·rename_i p hp
   rw [hp]at h
   simpa using h
  ·rename_i hne
   match hp:BL ow 0 ts x,h,hne with
   | [p],_,hne=>exact(hne p rfl).elim
   | [],h,_=>simp at h
   | _::_::_,h,_=>simp at h
 ·rename_i hne
  split
  ·rename_i p hp
   rw [hp]at h
   match hv:JK ow 0 suf ts x,h,hne with
   | [v],_,hne=>exact(hne v rfl).elim
   | [],h,_=>simp [AO]at h
   | _::_::_,h,_=>simp [AO]at h
  ·simp only [DV.toV,h]
theorem aV (m:Nat) (id:Ah) (k:Kd) (x:KA T.den k):(cG m id k x).ok :=by
 unfold cG
 split
 ·simp only [DC.ok]
 ·split<;>simp only [DC.ok]
theorem V7: ∀ (ms:List Nat) (i:Nat) (suf:Ah) (ks:List Kd) (x:DK T.den ks),BU (ND ms i suf ks x)
 | [],_,_,[],_=>by simp [ND,BU]
 | _::_,_,_,[],_=>by simp [ND,BU]
 | [],i,suf,k::ks,x=>by simp only [ND,BU,DC.ok,true_and];exact V7 [] i suf ks x.2
 | m::ms,i,suf,k::ks,x=>by simp only [ND,BU];exact⟨aV _ _ _ _,V7 ms (i+1) suf ks x.2⟩
theorem P6 {H:At T} {n:Nat} (m:List Nat) (suf:Ah) (t:VT) (x:DA T t):(Po m suf t x).ok H n:=by
 cases t with
 | k kd=>simp only [Po,DV.ok];exact aV _ _ _ _
 | s E=>simp only [Po,DV.ok];exact V7 _ _ _ _ _
 | f g=>simp only [Po,DV.ok,DC.ok]
theorem V8 {H:At T} {n:Nat}: ∀ (ow:List (List Nat)) (p:Nat) (suf:Ah) (ts:List VT) (x:RT T ts),Cn H n (JK ow p suf ts x)
 | [],_,_,[],_=>by simp [JK,Cn]
 | _::_,_,_,[],_=>by simp [JK,Cn]
 | [],p,suf,[t],x=>by simp only [JK,Cn,and_true];exact P6 _ _ _ _
 | m::ms,p,suf,[t],x=>by simp only [JK,Cn,and_true];exact P6 _ _ _ _
 | [],p,suf,t::u::ts,x=>by simp only [JK,Cn];exact⟨P6 _ _ _ _,V8 [] (p+1) suf (u::ts) x.2⟩
 | m::ms,p,suf,t::u::ts,x=>by simp only [JK,Cn];exact⟨P6 _ _ _ _,V8 ms (p+1) suf (u::ts) x.2⟩
theorem kE {H:At T} {n:Nat} (ow:List (List Nat)) (suf:Ah) (ts:List VT) (x:RT T ts):(lY ow suf ts x).ok H n:=by
 have:=V8 (H:=H) (n:=n) ow 0 suf ts x
 unfold lY
 split
 ·rename_i v hv;rw [hv]at this;simp only [Cn,and_true]at this;exact this
 ·simp only [DV.ok];exact this
def mu (m:Nat) (id:Ah) (k:Kd):Bool:=match JI m k with
 | 0=>true
 | _=>match m with
   | 2=>true
   | _=> !Ed id&& !CJ id
def ir:List Nat→Nat→Ah→List Kd→Bool
 | m::ms,i,suf,k::ks=>mu m (i::suf) k&&ir ms (i+1) suf ks
 | _,_,_,_=>true
def mw (T:Be):List (List Nat)→Nat→Ah→List VT→Bool
 | m::ms,p,suf,t::ts=>ir m 0 (p::suf) (C5 T t)&&mw T ms (p+1) suf ts
 | _,_,_,_=>true
theorem H6: ∀ {a b:List OE} {i j:List Ah},HH a i=true→HH b j=true→HH (a++b) (i++j)=true
 | [],_,[],_,_,h=>h
 | [],_,_::_,_,h,_=>by simp [HH]at h
 | _::_,_,[],_,h,_=>by simp [HH]at h
 | o::a,b,x::i,j,h,k=>by
   simp only [HH,Bool.and_eq_true,List.cons_append]at h ⊢
   exact⟨h.1,H6 h.2 k⟩
theorem cI {m:Nat} {id:Ah} {k:Kd} (x:KA T.den k) (h:mu m id k=true):HH (Hx m k x) (Pn m id k)=true:=by
 cases k with
 | lst E=>
   match m with
   | 0=>rfl
   | 1=>
     have h:(!Ed id&& !CJ id)=true:=h
     simp only [Bool.and_eq_true,Bool.not_eq_true']at h
     show ((Ed id==false&& !CJ id)&&true)=true
     rw [h.1,h.2];rfl
   | 2=>rfl
   | _+3=>rfl
 | _=>rfl
theorem NI: ∀ {ms:List Nat} {i:Nat} {suf:Ah} {ks:List Kd} (x:DK T.den ks),ir ms i suf ks=true→HH (B8 ms ks x) (Hy ms i suf ks)=true
 | [],_,_,_,_,_=>rfl
 | _::_,_,_,[],_,_=>rfl
 | m::ms,i,suf,k::ks,x,h=>by
   simp only [ir,Bool.and_eq_true]at h
   exact H6 (cI x.1 h.1) (NI x.2 h.2)
theorem XR: ∀ {ow:List (List Nat)} {p:Nat} {suf:Ah} {ts:List VT} (x:RT T ts),mw T ow p suf ts=true→HH (CR ow ts x) (P5 T ow p suf ts)=true
 | [],_,_,[],_,_=>rfl
 | [],_,_,[_],_,_=>rfl
 | [],_,_,_::_::_,_,_=>rfl
 | _::_,_,_,[],_,_=>rfl
 | m::ms,p,suf,[t],x,h=>by
   simp only [mw,Bool.and_eq_true]at h
   have e:P5 T (m::ms) p suf [t]=Hy m 0 (p::suf) (C5 T t):=by cases ms<;>simp [P5]
   rw [e]
   exact NI (JJ t x) h.1
 | m::ms,p,suf,t::u::ts,x,h=>by
   rw [mw,Bool.and_eq_true]at h
   rw [P5]
   exact H6 (NI (JJ t x.1) h.1) (XR x.2 h.2)
def Jm (ns:List Ah) (i:Ah):Bool:=match ns with
 | []=>false
 | n::r=>match A1 i n with
   | true=>true
   | false=>match ofDT n i with
     | true=>true
     | false=>Jm r i
where ofDT (n i:Ah):Bool:=match i with
 | m::_::j=>Nat.beq m 1000007&&A1 j n
 | _=>false
theorem aW: ∀ (ns:List Ah) (i:Ah),Jm ns i=Iq ns i
 | [],_=>rfl
 | n::r,i=>by
   have e:Jm.ofDT n i=Dm n i:=by
    unfold Jm.ofDT Dm
    split<;>simp [Cl]
   simp only [Jm,Iq,List.any_cons,e,Cl]
   have:=aW r i
   unfold Iq at this
   rw [this]
   cases i==n<;>cases Dm n i<;>rfl
def Zu {P:Program} {I:World→Prop} (Γ:List (CE T P I)) (st:Ag T) (f:FuncId) (xs:List Operand) (d:Nat):M (Ag T):=
 match Gx st [] xs with
 | some vs=>match Jf st vs,MC vs with
   | some ws,[]=>match LJ f ws Γ with
     | some ⟨e,x⟩=>match e.ow with
       | []=> .no
       | m::ms=>mIf (Jb (P5 T (m::ms) 0 (d::st.pre) e.rs)&&mw T (m::ms) 0 (d::st.pre) e.rs) (.opt (e.run x) fun r=>
          .ret ((Bm (aU (m::ms) 0 (d::st.pre) e.rs r) (st.killF (Jm (P5 T (m::ms) 0 (d::st.pre) e.rs)))).put (some d) (lY (m::ms) (d::st.pre) e.rs r)))
     | none=> .no
   | _,_=> .no
 | none=> .no
theorem cJ {H:At T} {P:Program} {I:World→Prop} {Γ:List (CE T P I)} {st:Ag T} (hw:AB H st) {f:FuncId} {xs:List Operand} {o:Oper} (hk:B2 o.op= .call f xs) {d:Nat} (hd:o.dst=some d):
 Yl (Zu Γ st f xs d) (fun st'=>(∃ H',Nx H st H' st')∧st'.pre=st.pre∧ ∀ K:St→Prop,K st'.toSt→Eg P I o st.toSt K):=by
 unfold Zu
 split
 ·rename_i vs hvs
  split
  ·rename_i ws hws htop
   split
   ·rename_i e x hx
    obtain⟨he,hx⟩:=EP hx
    split
    ·exact Yl.no
    ·rename_i m ms how
     refine Yl.mIf fun hg=>Yl.opt fun r hr=>Yl.ret ?_
     simp only [Bool.and_eq_true]at hg
     obtain⟨g1,g2⟩:=hg
     have hnd:=FZ g1
     obtain⟨a1,a2,a3⟩:=CK (key:=[]) hw (fun _ hl=>by cases hl) rfl hvs
     change (st.toSt.args true xs).1 at a2
     change (st.toSt.args true xs).2=AO vs at a3
     have hc:=e.okx (by rw [how];simp) x r hr
     rw [he,how]at hc
     have hs:(AO vs).map (Bn st.toSt)=EO e.ps x:=by rw [E4 hws,hx]
     have hp:Jm (P5 T (m::ms) 0 (d::st.pre) e.rs)=Iq (P5 T (m::ms) 0 (d::st.pre) e.rs):=by funext i;exact aW _ _
     rw [hp]
     generalize hns:P5 T (m::ms) 0 (d::st.pre) e.rs=ns at *
     obtain⟨⟨H1,n1⟩,k1,k2,k3,k4,k5⟩:=Ag.killF_spec hw (Iq ns)
     obtain⟨x1,x2,x3⟩:=XP (m::ms) 0 (d::st.pre) e.rs r
     rw [hns]at x1 x2
     obtain⟨H2,n2⟩:=IP (l:=aU (m::ms) 0 (d::st.pre) e.rs r) n1 x3 (by rw [x2];exact hnd) (fun p hp' e' he' q=>by
      have h1:=k5 e' he'
      have h2:p.1∈ns:=by rw [←x2];exact List.mem_map.2 ⟨p,hp',rfl⟩
      have h3:Iq ns e'.id=true:=List.any_eq_true.2 ⟨p.1,h2,by simp [q]⟩
      rw [h1]at h3;cases h3)
     obtain⟨s1,s2,s3,s4,s5,_⟩:=EU (aU (m::ms) 0 (d::st.pre) e.rs r) (st.killF (Iq ns))
     obtain⟨H3,n3⟩:=Ag.put_spec n2 (some d) (kE (m::ms) (d::st.pre) e.rs r)
     refine⟨⟨H3,n3⟩,by rw [AL,s3,k4],fun K hK=>?_⟩
     have hless:Ck ((st.toSt.killP (Iq ns) (Cr (CR (m::ms) e.rs r) ns++(st.toSt.so.filter fun e=> !(Iq ns e.id)).map (As.killP (Iq ns)))).put (some d) (JH ns (BL (m::ms) 0 e.rs r)))
      ((Bm (aU (m::ms) 0 (d::st.pre) e.rs r) (st.killF (Iq ns))).put (some d) (lY (m::ms) (d::st.pre) e.rs r)).toSt :=by
      rw [Ag.put_toSt,eR,hns]
      refine Ck.put ?_ _ _
      have t1:(Bm (aU (m::ms) 0 (d::st.pre) e.rs r) (st.killF (Iq ns))).toSt.tm =(st.killF (Iq ns)).toSt.tm :=by simp only [Ag.toSt,s1,s4]
      have t2:(Bm (aU (m::ms) 0 (d::st.pre) e.rs r) (st.killF (Iq ns))).toSt.gh =(st.killF (Iq ns)).toSt.gh :=by simp only [Ag.toSt,s2]
      have t3:(Bm (aU (m::ms) 0 (d::st.pre) e.rs r) (st.killF (Iq ns))).toSt.so =Cr (CR (m::ms) e.rs r) ns++(st.toSt.so.filter fun e=> !(Iq ns e.id)).map (As.killP (Iq ns)):=by rw [s5,x1,k3]
      refine⟨by rw [t1];exact k1.get.1,fun i=>by rw [t1];exact k1.get.2 i,fun y hy=>by rw [t3]at hy;exact hy,fun hn=>by rw [t3];exact hn,by rw [t2];exact k2.get,?_⟩
      show (Bm (aU (m::ms) 0 (d::st.pre) e.rs r) (st.killF (Iq ns))).pre =st.pre
      rw [s3,k4]
     intro F a w G Q hI hR
     refine Oper.wp_mono (fun _ _ ⟨s,G',hs',hR'⟩=>⟨_,G',hK,(hs'▸hR').less hless⟩) (Eg.callX (K:=(· =(st.toSt.killP (Iq ns) (Cr (CR (m::ms) e.rs r) ns++(st.toSt.so.filter fun e=> !(Iq ns e.id)).map (As.killP (Iq ns)))).put (some d) (JH ns (BL (m::ms) 0 e.rs r)))) d hk hd a2 ?_ ?_ ?_ ?_ hnd rfl F a w G Q hI hR)
     ·rw [a3,hs];exact Hz _ _
     ·rw [a3,Ew,htop]
     ·rw [a3,hs];exact hc
     ·rw [←hns];exact XR r g2
   ·exact Yl.no
  ·exact Yl.no
 ·exact Yl.no
end Go.PL
set_option linter.all false
namespace Go.PL
open Go Go.RowKit
variable {T:Be}
def U3 (E E':Nat) (l:List (T.den E')):Option (List (T.den E)):=match Nat.decEq E' E with
 | .isTrue h=>some (h▸l)
 | .isFalse _=>none
theorem Jn {E E':Nat} {l:List (T.den E')} {m:List (T.den E)} (h:U3 E E' l=some m): ∃ e:E'=E,m=e▸l:=by
 unfold U3 at h
 split at h
 ·rename_i e _;injection h with h;exact⟨e,h.symm⟩
 ·cases h
theorem RL {den:Nat→Type} {enc: ∀ E,den E→List C}: ∀ (ks:List Kd) (y:DK den ks),(Bv enc ks y).map IB=Bv enc ks y
 | [],_=>rfl
 | k::ks,y=>by
   simp only [Bv,List.map_cons,RL ks y.2]
   cases k<;>rfl
theorem O2: ∀ (ks:List Kd) (y:DK T.den ks),(BA T ks y).map IB=Bv T.enc ks y
 | [],_=>rfl
 | k::ks,y=>by
   simp only [BA,Bv,List.map_cons,O2 ks y.2]
   cases k<;>rfl
theorem LR (E:Nat) (n:Int): ∀ (k:Int) (l:List (T.den E)),(Aw T E n k l).map IB=l.flatMap (T.enc E)
 | _,[]=>rfl
 | k,x::l=>by
   rw [Aw,List.map_append,LR E n (k+1) l,List.flatMap_cons]
   congr 1
   split
   ·rw [Be.denc,O2,T.encok]
   ·rw [←T.encok,RL]
def my (r id i:Ah):Bool:=match A1 i r with
 | true=>true
 | false=>Jm.ofDT id i
theorem Jo (n i:Ah):Jm.ofDT n i=Dm n i:=by
 unfold Jm.ofDT Dm
 split<;>simp [Cl]
theorem kF (r id:Ah):my r id=pD r id:=by
 funext i
 unfold my pD
 rw [Cl,Jo]
 cases i==r<;>rfl
theorem setL_mem' {id:Ah} {t:Nat} {x:DX T}: ∀ {l:List (DE T)} {e:DE T},(l.map DE.id).Nodup →e∈Ns id t x l→(e∈l∧e.id ≠ id)∨e=⟨id,t,x⟩
 | [],e,_,h=>by cases h
 | a::r,e,hn,h=>by
   rw [List.map_cons]at hn
   obtain⟨n1,n2⟩:=List.nodup_cons.1 hn
   unfold Ns at h
   split at h
   ·rename_i hb
    have hb:=Az.1 hb
    rcases List.mem_cons.1 h with rfl | h
    ·exact .inr (by rw [hb])
    ·exact .inl ⟨by simp [h],fun q=>n1 (List.mem_map.2 ⟨e,h,by rw [q,hb]⟩)⟩
   ·rename_i hb
    rcases List.mem_cons.1 h with rfl | h
    ·exact .inl ⟨by simp,fun q=>by rw [Az.2 q]at hb;cases hb⟩
    ·rcases setL_mem' n2 h with ⟨h1,h2⟩ | h
     ·exact .inl ⟨by simp [h1],h2⟩
     ·exact .inr h
theorem NJ {H:At T} {st:Ag T} (hw:AB H st) {p:Ah→Bool} {e:As} (h:e∈(st.killF p).toSt.so): ∃ d∈st.toSt.so,p d.id=false∧e=d.killP p:=by
 rw [(Ag.killF_spec hw p).2.2.2.1]at h
 obtain⟨d,hd,rfl⟩:=List.mem_map.1 h
 obtain⟨h1,h2⟩:=List.mem_filter.1 hd
 exact⟨d,h1,by simpa using h2,rfl⟩
theorem Jp {A B:St} (h1:Ip A.tm B.tm) (h2:Ip A.gh B.gh) (h3: ∀ e∈B.so,e∈A.so) (h4:(B.so.map (·.id)).Nodup) (h5:B.pre=A.pre):Ck A B:=⟨h1.get.1,h1.get.2,h3,fun _=>h4,h2.get,h5⟩
theorem FO {H:At T} {st:Ag T} (hw:AB H st):(st.toSt.so.map (·.id)).Nodup :=by
 have e:st.toSt.so.map (·.id)=st.so.map DE.id:=by
  simp only [Ag.toSt,List.map_map]
  exact List.map_congr_left fun e _=>DE.toE_id e
 rw [e];exact hw.nd
theorem GJ {α:Type} [Inhabited α] {l:List α} {i:Int} {x:α} (h:AN l i=some x):0≤i∧i<(l.length:Int)∧l[i.toNat]? =some x:=by
 have hi:=K3 h
 have:=Xf h
 refine⟨hi.1,hi.2,?_⟩
 rw [List.getD_eq_getElem?_getD,List.getElem?_eq_getElem (by omega)]at this
 rw [List.getElem?_eq_getElem (by omega)]
 simpa using this.symm
def E6:(ks:List Kd)→DK T.den ks→Nat→Option ((F:Nat)×List (T.den F))
 | .lst F::_,y,0=>some ⟨F,y.1⟩
 | _::ks,y,p+1=>E6 ks y.2 p
 | _,_,_=>none
theorem Kf: ∀ {ks:List Kd} {y:DK T.den ks} {p:Nat} {F:Nat} {l:List (T.den F)},E6 ks y p=some ⟨F,l⟩→(BA T ks y)[p]? =some (.isl F (T.sz F) l.length (l.flatMap (T.enc F)))∧p<ks.length
 | [],_,_,_,_,h=>by simp [E6]at h
 | .lst F'::ks,y,0,F,l,h=>by
   simp only [E6,Option.some.injEq]at h
   injection h with h1 h2
   subst h1
   have h2:=eq_of_heq h2
   subst h2
   exact⟨rfl,by simp⟩
 | .int k::ks,y,0,F,l,h=>by simp [E6]at h
 | .bool ::ks,y,0,F,l,h=>by simp [E6]at h
 | .str ::ks,y,0,F,l,h=>by simp [E6]at h
 | k::ks,y,p+1,F,l,h=>by
   have h:E6 ks y.2 p=some ⟨F,l⟩:=by
    cases k<;>simpa only [E6] using h
   obtain⟨a,b⟩:=Kf h
   exact⟨by simpa only [BA,List.getElem?_cons_succ] using a,by simp;omega⟩
def E7 (F:Nat) (l:List (T.den F)):(ks:List Kd)→DK T.den ks→Nat→Option (DK T.den ks)
 | .lst F'::_,y,0=>match Nat.decEq F F' with
   | .isTrue h=>some (h▸l,y.2)
   | .isFalse _=>none
 | k::ks,y,p+1=>match E7 F l ks y.2 p with
   | some z=>some (y.1,z)
   | none=>none
 | _,_,_=>none
theorem Jq {F:Nat} {l:List (T.den F)}: ∀ {ks:List Kd} {y z:DK T.den ks} {p:Nat},E7 F l ks y p=some z→BA T ks z=(BA T ks y).set p (.isl F (T.sz F) l.length (l.flatMap (T.enc F)))∧p<ks.length
 | [],_,_,_,h=>by simp [E7]at h
 | .lst F'::ks,y,z,0,h=>by
   simp only [E7]at h
   split at h
   ·rename_i e _
    subst e
    injection h with h
    subst h
    exact⟨rfl,by simp⟩
   ·cases h
 | .int k::ks,y,z,0,h=>by simp [E7]at h
 | .bool ::ks,y,z,0,h=>by simp [E7]at h
 | .str ::ks,y,z,0,h=>by simp [E7]at h
 | k::ks,y,z,p+1,h=>by
   have h:(match E7 F l ks y.2 p with | some z=>some ((y.1,z):KA T.den k×DK T.den ks) | none=>none)=some z:=by
    cases k<;>simpa only [E7] using h
   split at h
   ·rename_i z' hz
    injection h with h
    subst h
    obtain⟨a,b⟩:=Jq hz
    exact⟨by simp only [BA,List.set_cons_succ];rw [a],by simp;omega⟩
   ·cases h
theorem LS {E:Nat} {n:Int} {c:C} {p:Nat} {x':T.den E}: ∀ {l:List (T.den E)} {k:Int} {i:Nat} {x:T.den E},l[i]? =some x→k+i<n→T.denc E x'=(T.denc E x).set p c→p<T.sz E→(Aw T E n k l).set (i*T.sz E+p) c=Aw T E n k (l.set i x')
 | [],_,_,_,h,_,_,_=>by simp at h
 | y::l,k,0,x,h,hn,hx,hp=>by
   simp only [List.getElem?_cons_zero,Option.some.injEq]at h
   subst h
   have hk:k<n:=by simpa using hn
   rw [List.set_cons_zero,Aw,Aw,if_pos hk,if_pos hk,Nat.zero_mul,Nat.zero_add,List.set_append_left _ _ (by rw [Du];exact hp),hx]
 | y::l,k,i+1,x,h,hn,hx,hp=>by
   have hl:(if k<n then T.denc E y else T.enc E y).length =T.sz E:=by
    split
    ·exact Du E y
    ·exact AD E y
   rw [List.set_cons_succ,Aw,Aw,List.set_append_right _ _ (by rw [hl,Nat.add_mul,Nat.one_mul];omega),hl,show (i+1)*T.sz E+p - T.sz E=i*T.sz E+p by rw [Nat.add_mul,Nat.one_mul];omega]
   rw [LS (by simpa using h) (by push_cast at hn;omega) hx hp]
theorem cK (E:Nat) (x:T.den E):Ao (T.denc E x)=true:=by
 have: ∀ (ks:List Kd) (y:DK T.den ks),Ao (BA T ks y)=true:=by
  intro ks
  induction ks with
  | nil=>intro _;rfl
  | cons k ks ih=>
    intro y
    simp only [BA,Ao,Bool.and_eq_true]
    exact⟨by cases k<;>rfl,ih y.2⟩
 exact this _ _
def kG (P:Program) (I:World→Prop) (o:Oper) (A B:St):Prop:= ∀ (F:Fr) (a:Act) (w:World) (G:Ay),F.I=I→R F A a w G→ ∃ v G',(∀ w',Cv w w'→(execOp a.eval o).run P w'= .ok (.value v) w')∧R F B (a.put o.dst v) w G'
theorem kG.esc {P:Program} {I:World→Prop} {o:Oper} {A B:St} {K:St→Prop} (h:kG P I o A B) (hK:K B):Eg P I o A K:=fun F a w G Q hI hR=>by
 obtain⟨v,G',h1,h2⟩:=h F a w G hI hR
 exact AM (h1 w (Cv.refl w)) ⟨_,G',hK,h2⟩
theorem cL {w w':World} {b k:Nat} {v:Value} (h:Cv w w') (hc:w.cell? ⟨b,k,none⟩=some v):w'.cell? ⟨b,k,none⟩=some v:=by
 rw [cell?_of_block' (h.block b (block_lt_of_cell hc))];exact hc
def dlx (P:Program) (o:Oper) (st:Ag T):M (Ag T):=match o.op with
 | .load t x=>match o.dst,st.arg [] x,Ir P t with
   | some d,some (.c (.rp id N i off)),some (false,1)=>match IE st id with
     | some ⟨E,(nn,l,none)⟩=>mIf (Ed id&&(Nat.beq N (T.sz E)&&(!(CJ (d::st.pre))&& !(Ed (d::st.pre))))) (.opt (AN l i) fun x=> .opt (AS (i<nn)) fun _=>match E6 (T.ks E) (T.un E x) off with
       | some ⟨F,y⟩=> .ret ((Bm [(d::st.pre, .row F y)] ((st.killF (my (d::st.pre) id)).setX id (.deep E nn l (some (i,off))))).put (some d) (.c (.c (.osl (d::st.pre)))))
       | none=> .no)
     | _=> .no
   | _,_,_=> .no
 | _=> .no
theorem eT {H:At T} {P:Program} {I:World→Prop} {st:Ag T} (hw:AB H st) {o:Oper}:Yl (dlx P o st) (fun st'=>(∃ H',Nx H st H' st')∧st'.pre=st.pre∧kG P I o st.toSt st'.toSt):=by
 unfold dlx
 split
 ·rename_i t x hop
  split
  ·rename_i d id N i off hd hx ht
   split
   ·rename_i E nn l hdr
    refine Yl.mIf fun hg=>Yl.opt fun xx hxx=>Yl.opt fun u hu=>?_
    simp only [Bool.and_eq_true,Nat.beq_eq,Bool.not_eq_true']at hg
    obtain⟨g1,g2,g3,g4⟩:=hg
    subst g2
    split
    ·rename_i F y hy
     refine Yl.ret ?_
     have hin:=CQ hu
     obtain⟨i0,i1,hxi⟩:=GJ hxx
     obtain⟨a1,a2,a3⟩:=Hv hw hx
     obtain⟨hmk,hlr,e,he1,he2,he3⟩:=Ce hdr
     obtain⟨hc,hoff⟩:=Kf hy
     have hE:e.toE=⟨id,some (E,T.sz E,l.length),Aw T E nn 0 l,true⟩:=by unfold DE.toE;rw [he3,he2];rfl
     obtain⟨⟨H1,n1⟩,k1,k2,k3,k4,k5⟩:=Ag.killF_spec hw (my (d::st.pre) id)
     have hp:my (d::st.pre) id=pD (d::st.pre) id:=kF _ _
     rw [hp]at n1 k1 k2 k3 k4 k5 ⊢
     have hrid:d::st.pre ≠ id:=fun q=>by rw [q,g1]at g4;cases g4
     obtain⟨H2,n2⟩:=Ag.setX_nx n1.ok id (x:= .deep E nn l (some (i,off))) trivial
     obtain⟨H3,n3⟩:=IP (l:=[(d::st.pre,DX.row F y)]) (n1.trans n2) (fun p hp'=>by rcases List.mem_singleton.1 hp' with rfl;trivial) (by simp) (fun p hp' e' he' q=>by
      rcases List.mem_singleton.1 hp' with rfl
      have hids:e'.id∈((st.killF (pD (d::st.pre) id)).so.map DE.id):=by
       rw [←Rl id (st.killF (pD (d::st.pre) id)).nx (.deep E nn l (some (i,off)))]
       exact List.mem_map.2 ⟨e',he',rfl⟩
      obtain⟨e2,h1,h2⟩:=List.mem_map.1 hids
      have:=k5 e2 h1
      rw [h2,q]at this
      simp [pD]at this)
     obtain⟨s1,s2,s3,s4,s5,_⟩:=EU [(d::st.pre,DX.row F y)] ((st.killF (pD (d::st.pre) id)).setX id (.deep E nn l (some (i,off))))
     obtain⟨H4,n4⟩:=Ag.put_spec n3 (some d) (v:= .c (.c (.osl (d::st.pre)))) (by simp only [DV.ok,DC.ok])
     refine⟨⟨H4,n4⟩,by rw [AL,s3];exact k4,fun Fr a w G hI hR=>?_⟩
     have hL:st.toSt.lookD id=some e.toE:=hR.lookD_of (List.mem_map.2 ⟨e,he1,rfl⟩) (by rw [hE]) g1
     have hk:e.toE.cs[i.toNat*T.sz E+off]? =some (.isl F (T.sz F) y.length (y.flatMap (T.enc F))):=by
      rw [hE]
      show (Aw T E nn 0 l)[_]? =_
      rw [Hp hxi hoff,if_pos (by omega)]
      exact hc
     have hxv:=hR.arg rfl a2
     rw [a3]at hxv
     simp only [DV.toV,DC.toC,Ab,Ad]at hxv
     obtain⟨b,hb1,hv⟩:=hxv
     obtain⟨G',q1,b2,v,q2,q3,q4,q5⟩:=hR.extract hL hk (r:=d::st.pre) g3 g4
     rw [hb1]at q2;injection q2 with q2;subst q2
     obtain⟨dd,ti,hu',hd',_⟩:=C8 ht
     refine⟨v,G',fun w' hS=>?_,?_⟩
     ·simp [execOp,hop,hv,Ee hu' hd' (cL hS q3)]
     ·rw [hd]
      have hfin:=R.put (d:=some d) q1 (show Ab w G' (V.c (C.osl (d::st.pre))) v by simp only [Ab,Ad];exact⟨q4,q5⟩)
      refine hfin.less ?_
      rw [Ag.put_toSt]
      refine Ck.put (Jp ?_ ?_ ?_ ?_ ?_) _ _
      ·have:(Bm [(d::st.pre,DX.row F y)] ((st.killF (pD (d::st.pre) id)).setX id (.deep E nn l (some (i,off))))).toSt.tm =(st.killF (pD (d::st.pre) id)).toSt.tm :=by simp only [Ag.toSt,s1,s4];rfl
       rw [this];exact k1
      ·have:(Bm [(d::st.pre,DX.row F y)] ((st.killF (pD (d::st.pre) id)).setX id (.deep E nn l (some (i,off))))).toSt.gh =(st.killF (pD (d::st.pre) id)).toSt.gh :=by simp only [Ag.toSt,s2];rfl
       rw [this];exact k2
      ·intro z hz
       rw [s5]at hz
       simp only [List.map_cons,List.map_nil,List.singleton_append,List.mem_cons]at hz
       simp only [St.killP,List.mem_cons,List.mem_map,List.mem_filter]
       rcases hz with rfl | hz
       ·exact .inl rfl
       ·right
        obtain⟨e3,h1,rfl⟩:=List.mem_map.1 hz
        rcases setL_mem' n1.ok.nd h1 with ⟨h1,h2⟩ | h1
        ·obtain⟨d3,h3,h4,h5⟩:=NJ hw (List.mem_map.2 ⟨e3,h1,rfl⟩)
         have hid3:d3.id ≠ id:=by
          intro q
          have:e3.toE.id=d3.id:=by rw [h5,As.killP_id]
          rw [DE.toE_id]at this
          exact h2 (this.trans q)
         refine⟨d3.killP (pD (d::st.pre) id),⟨d3,⟨h3,by simp only [pD,Bool.or_eq_false_iff,beq_eq_false_iff_ne]at h4;simpa using h4.1⟩,rfl⟩,?_⟩
         rw [EZ (by rw [As.killP_id];exact hid3),h5]
        ·subst h1
         refine⟨e.toE.killP (pD (d::st.pre) id),⟨e.toE,⟨List.mem_map.2 ⟨e,he1,rfl⟩,by rw [hE];simpa using hrid.symm⟩,rfl⟩,?_⟩
         rw [DZ (by rw [As.killP_id,hE]),As.killP_id,As.killP_pu,hE]
         rfl
      ·exact FO n3.ok
      ·rw [show (Bm [(d::st.pre,DX.row F y)] ((st.killF (pD (d::st.pre) id)).setX id (.deep E nn l (some (i,off))))).toSt.pre =st.pre from by show (Bm _ _).pre =_;rw [s3];exact k4];rfl
    ·exact Yl.no
   ·exact Yl.no
  ·exact Yl.no
 ·exact Yl.no
end Go.PL
set_option linter.all false
namespace Go.PL
open Go Go.RowKit
variable {T:Be}
def Ag.killD (st:Ag T) (p:Ah→Bool):Ag T:=let s:=st.remap (DV.menP p) (fun _=> .u) (fun _=>false) id;{s with so:=s.so.filter fun e=> !(p e.id)&& !(e.x.menP p)}
theorem aX: ∀ (l:List (DE T)) (n:Nat),LB (fun _=>false) id n l=l
 | [],_=>rfl
 | e::r,n=>by simp only [LB,aX r]
theorem RM {p:Ah→Bool} (m n:Nat) (tm:Tm T): ∀ i,(Au m (KU (DV.menP p) (fun _=> .u) n tm)).getD i .undef = .undef ∨((Au m (KU (DV.menP p) (fun _=> .u) n tm)).getD i .undef =(Au m tm).getD i .undef ∧((Au m tm).getD i .undef).menP p=false):=fun i=>by
 unfold Au
 simp only [List.getD_eq_getElem?_getD,List.getElem?_map]
 by_cases hi:i<m
 ·rw [List.getElem?_range hi]
  simp only [Option.map_some,Option.getD_some,Jd (p:=DV.menP p) (f:=fun _=>DV.u) (by simp [DV.menP])]
  split
  ·exact .inl (by simp only [DV.toV])
  ·rename_i h;exact .inr ⟨rfl,DV.menP_le p _ h⟩
 ·rw [List.getElem?_eq_none (by simpa using hi)];exact .inl rfl
theorem K5 (a b:List V) (i:Nat):(a++b).getD i .undef =if i<a.length then a.getD i .undef else b.getD (i - a.length) .undef :=by
 simp only [List.getD_eq_getElem?_getD]
 split
 ·rename_i h;rw [List.getElem?_append_left h]
 ·rename_i h;rw [List.getElem?_append_right (by omega)]
theorem XT {p:Ah→Bool}: ∀ (l:List (Nat×Tm T)) (n:Nat),((LA (DV.menP p) (fun _=> .u) n l).flatMap fun f=>Au f.1 f.2).length =(l.flatMap fun f=>Au f.1 f.2).length ∧ ∀ i,((LA (DV.menP p) (fun _=> .u) n l).flatMap fun f=>Au f.1 f.2).getD i .undef = .undef ∨
 (((LA (DV.menP p) (fun _=> .u) n l).flatMap fun f=>Au f.1 f.2).getD i .undef =(l.flatMap fun f=>Au f.1 f.2).getD i .undef ∧((l.flatMap fun f=>Au f.1 f.2).getD i .undef).menP p=false)
 | [],_=>⟨rfl,fun i=> .inl rfl⟩
 | (m,tm)::r,n=>by
   obtain⟨h1,h2⟩:=XT r (n+tm.length)
   have hl:(Au m (KU (DV.menP p) (fun _=> .u) n tm)).length =(Au m tm).length :=by rw [Bf,Bf]
   simp only [LA,List.flatMap_cons]
   refine⟨by rw [List.length_append,List.length_append,h1,hl],fun i=>?_⟩
   rw [K5,K5,hl]
   split
   ·exact RM m n tm i
   ·exact h2 _
theorem Jr {H:At T} {st:Ag T} (h:AB H st) (p:Ah→Bool):(∃ H',Nx H st H' (st.killD p))∧(st.killD p).pre =st.pre∧(∀ e∈(st.killD p).so,e∈st.so∧p e.id=false∧e.x.menP p=false):=by
 obtain⟨H',hN⟩:=Ag.remap_nx (p:=DV.menP p) (f:=fun _=> .u) (q:=fun _=>false) (g:=id) h (fun _=>by simp only [DV.ok]) (fun {x} hx=>hx)
 refine⟨⟨H',hN.ext,hN.le,Dw hN.ok _⟩,rfl,fun e he=>?_⟩
 obtain⟨h1,h2⟩:=List.mem_filter.1 he
 have h1:e∈LB (fun _=>false) id (st.nx+st.tm.length+JB st.gh) st.so:=h1
 rw [aX]at h1
 simp only [Bool.and_eq_true,Bool.not_eq_true']at h2
 exact⟨h1,h2.1,h2.2⟩
theorem O3 {H H2:At T} {st:Ag T} (hw:AB H st) {p:Ah→Bool} {id:Ah} {ns:List Ah} {x:DX T} (hid: ∀ n∈ns,p n=true) (hok:AB H2 ((st.killD p).setX id x)) {new:As} (hnew:TB (id,x)=new):UQ p id ns new st.toSt ((st.killD p).setX id x).toSt :=by
 refine⟨?_,fun i=>?_,?_,fun i=>?_,fun z hz=>?_,FO hok,rfl⟩
 ·show (Au _ _).length =(Au _ _).length
  rw [Bf,Bf];rfl
 ·exact RM st.m st.nx st.tm i
 ·exact(XT st.gh _).1
 ·exact(XT st.gh _).2 i
 ·obtain⟨e,he,rfl⟩:=List.mem_map.1 hz
  obtain⟨⟨H1,n1⟩,_,k3⟩:=Jr hw p
  rcases setL_mem' n1.ok.nd he with ⟨h1,h2⟩ | h1
  ·right
   obtain⟨q1,q2,q3⟩:=k3 e h1
   refine⟨List.mem_map.2 ⟨e,q1,rfl⟩,by rw [DE.toE_id];exact h2,fun hq=>?_,?_⟩
   ·have:=hid _ hq
    rw [DE.toE_id,q2]at this;cases this
   ·unfold DE.toE
    cases hx:e.x with
    | box cs=>
      right
      rw [hx]at q3
      simpa only [DX.menP,ES] using q3
    | row E l=>exact .inl rfl
    | deep E n l h=>exact .inl rfl
  ·left
   rw [h1,aS];exact hnew
def ME (rs:List Ah) (id i:Ah):Bool:=match rs with
 | []=>Jm.ofDT id i
 | r::rs=>match A1 i r with
   | true=>true
   | false=>ME rs id i
theorem V9: ∀ {rs:List Ah} {id r:Ah},r∈rs→ ∀ i,pD r id i=true→ME rs id i=true
 | [],_,_,h,_,_=>by cases h
 | x::rs,id,r,h,i,hi=>by
   unfold ME
   split
   ·rfl
   ·rename_i hb
    rcases List.mem_cons.1 h with rfl | h
    ·simp only [pD,Bool.or_eq_true,beq_iff_eq]at hi
     rcases hi with hi | hi
     ·rw [Az.2 hi]at hb;cases hb
     ·have: ∀ rs:List Ah,ME rs id i=true:=by
       intro rs
       induction rs with
       | nil=>simp only [ME,Jo,hi]
       | cons y rs ih=>simp only [ME];split<;>first | rfl | exact ih
      exact this rs
    ·exact V9 h i hi
theorem P7: ∀ {rs:List Ah} {id r:Ah},r∈rs→ME rs id r=true
 | x::rs,id,r,h=>by
   unfold ME
   split
   ·rfl
   ·rename_i hb
    rcases List.mem_cons.1 h with rfl | h
    ·rw [Az.2 rfl]at hb;cases hb
    ·exact P7 h
def kH (h:Option (Int×Nat)) (i:Int):Option Unit:=match h with
 | none=>some ()
 | some (j,_)=>AS (i=j)
def dsa (P:Program) (o:Oper) (st:Ag T):M (Ag T):=match o.op with
 | .store t x y=>match o.dst,st.arg [] x,st.arg [] y,Ir P t with
   | none,some (.c (.rp id N i off)),some (.c (.c (.osl r))),some (false,1)=>match IE st id,Db st r with
     | some ⟨E,(nn,l,h)⟩,some ⟨F,y⟩=>mIf (Ed id&&(Nat.beq N (T.sz E)&&(match h with | none=>true | some (_,o)=>Nat.beq o off))) (.opt (AN l i) fun x=> .opt (AS (i<nn)) fun _=> .opt (kH h i) fun _=>
      match E7 F y (T.ks E) (T.un E x) off with
      | some z=> .ret ((st.killD (ME [r] id)).setX id (.deep E nn (l.set i.toNat (T.bd E z)) none))
      | none=> .no)
     | _,_=> .no
   | _,_,_,_=> .no
 | _=> .no
theorem kI {H:At T} {P:Program} {I:World→Prop} {st:Ag T} (hw:AB H st) {o:Oper}:Yl (dsa P o st) (fun st'=>(∃ H',Nx H st H' st')∧st'.pre=st.pre∧ ∀ K:St→Prop,K st'.toSt→Eg P I o st.toSt K):=by
 unfold dsa
 split
 ·rename_i t x y hop
  split
  ·rename_i id N i off r hd hx hy ht
   split
   ·rename_i E nn l hh F yy hdr hrow
    refine Yl.mIf fun hg=>Yl.opt fun xx hxx=>Yl.opt fun u hu=>Yl.opt fun u2 hu2=>?_
    simp only [Bool.and_eq_true,Nat.beq_eq]at hg
    obtain⟨g1,g2,g3⟩:=hg
    subst g2
    split
    ·rename_i z hz
     have hin:=CQ hu
     obtain⟨i0,i1,hxi⟩:=GJ hxx
     obtain⟨a1,a2,a3⟩:=Hv hw hx
     obtain⟨b1,b2,b3⟩:=Hv hw hy
     obtain⟨hmk,hlr,e,he1,he2,he3⟩:=Ce hdr
     obtain⟨r1,_,er,r2,r3,r4⟩:=BF hrow
     obtain⟨hz1,hoff⟩:=Jq hz
     have hE:e.toE=⟨id,some (E,T.sz E,l.length),A4 T E nn l hh,true⟩:=by unfold DE.toE;rw [he3,he2]
     have hdenc:T.denc E (T.bd E z)=(T.denc E xx).set off (.isl F (T.sz F) yy.length (yy.flatMap (T.enc F))):=by rw [Be.denc,T.unmk,hz1];rfl
     have hset:=LS (n:=nn) (k:=0) (x':=T.bd E z) (c:= .isl F (T.sz F) yy.length (yy.flatMap (T.enc F))) (p:=off) hxi (by omega) hdenc hoff
     have hcells:(A4 T E nn l hh).set (i.toNat*T.sz E+off) (.isl F (T.sz F) yy.length (yy.flatMap (T.enc F)))=Aw T E nn 0 (l.set i.toNat (T.bd E z)):=by
      rw [←hset]
      cases hh with
      | none=>rfl
      | some jo=>
        obtain⟨j,o2⟩:=jo
        have g3:Nat.beq o2 off=true:=g3
        have g3:=Nat.eq_of_beq_eq_true g3
        have hho:i=j:=CQ hu2
        subst g3 hho
        simp only [A4,List.set_set]
     obtain⟨⟨H1,n1⟩,k2,k3⟩:=Jr hw (ME [r] id)
     obtain⟨H2,n2⟩:=Ag.setX_nx n1.ok id (x:= .deep E nn (l.set i.toNat (T.bd E z)) none) trivial
     refine Yl.ret ⟨⟨H2,n1.trans n2⟩,k2,fun K hK Fr a w G Q hI hR=>?_⟩
     have hL:st.toSt.lookD id=some e.toE:=hR.lookD_of (List.mem_map.2 ⟨e,he1,rfl⟩) (by rw [hE]) g1
     have hxv:=hR.arg rfl a2
     rw [a3]at hxv
     simp only [DV.toV,DC.toC,Ab,Ad]at hxv
     obtain⟨b,hb1,hv⟩:=hxv
     have hyv:=hR.arg rfl b2
     rw [b3]at hyv
     simp only [DV.toV,DC.toC,Ab,Ad]at hyv
     have hcl:(a.eval y).cells.toList =[a.eval y]:=by
      have:=hyv.2
      cases hq:a.eval y<;>rw [hq]at this<;>first | rfl | cases this
     have hc:Ai w G [C.any] (a.eval y).cells.toList :=by rw [hcl];simp only [Ai,Ad];exact⟨hyv.2,trivial⟩
     have hlen:e.toE.cs.length=l.length*T.sz E:=by rw [hE];exact Ej _ _ _ _
     have hoff':off<T.sz E:=hoff
     have hk:i.toNat*T.sz E+off<e.toE.cs.length:=by
      rw [hlen]
      have:(i.toNat+1)*T.sz E≤l.length*T.sz E:=Nat.mul_le_mul_right _ (by omega)
      rw [Nat.add_mul,Nat.one_mul]at this
      omega
     obtain⟨cur,T',c1,c2,c3⟩:=hR.deepStored hL hb1 (off:=i.toNat*T.sz E+off) hc (by simp;omega) rfl rfl
     have hs:=Ds (P:=P) ht c1 (by rw [hcl];rfl) c2 (Ai.one hc)
     have hcell:(w.setRow b (cur.toList.take (i.toNat*T.sz E+off)++(a.eval y).cells.toList ++cur.toList.drop (i.toNat*T.sz E+off+(a.eval y).cells.toList.length)).toArray).cell? ⟨b,i.toNat*T.sz E+off,none⟩=some (a.eval y):=by
      have:=setRow_heap w b cur (cur.toList.take (i.toNat*T.sz E+off)++(a.eval y).cells.toList ++cur.toList.drop (i.toNat*T.sz E+off+(a.eval y).cells.toList.length)).toArray T' (0,0) c1
      simp only [World.cell?,this]
      have hkl:(cur.toList.take (i.toNat*T.sz E+off)).length =i.toNat*T.sz E+off:=by rw [List.length_take];simp;rw [hcl]at c2;simp at c2;omega
      have:(cur.toList.take (i.toNat*T.sz E+off)++(a.eval y).cells.toList ++cur.toList.drop (i.toNat*T.sz E+off+(a.eval y).cells.toList.length))[i.toNat*T.sz E+off]? =some (a.eval y):=by
       rw [List.append_assoc,List.getElem?_append_right (by omega),hkl,hcl]
       simp
      simpa using this
     generalize w.setRow b _=w1 at hs c3 hcell
     have hrun:(execOp a.eval o).run P w= .ok .skip w1:=by simp [execOp,hop,hv,hs]
     have hr1:er.toE=⟨r,some (F,T.sz F,yy.length),yy.flatMap (T.enc F),true⟩:=by rw [DE.toE_row r4,r3]
     have hrd:Ed r=false:=En r1
     have hrid:r ≠ id:=fun q=>by rw [q,g1]at hrd;cases hrd
     have hmem: ∀ d∈st.toSt.so,d.id ≠ id→d∈(st.toSt.setD id e.toE.row (e.toE.cs.take (i.toNat*T.sz E+off)++[C.any]++e.toE.cs.drop (i.toNat*T.sz E+off+[C.any].length))).so :=fun d hd' hne=>List.mem_map.2 ⟨d,hd',EZ hne⟩
     have hL2:(st.toSt.setD id e.toE.row (e.toE.cs.take (i.toNat*T.sz E+off)++[C.any]++e.toE.cs.drop (i.toNat*T.sz E+off+[C.any].length))).lookD id=some ⟨id,e.toE.row,e.toE.cs.take (i.toNat*T.sz E+off)++[C.any]++e.toE.cs.drop (i.toNat*T.sz E+off+[C.any].length),true⟩:=by
      refine c3.lookD_of (List.mem_map.2 ⟨e.toE,List.mem_map.2 ⟨e,he1,rfl⟩,?_⟩) rfl g1
      rw [DZ (by rw [hE])]
      simp only [hE]
     have hLr:(st.toSt.setD id e.toE.row (e.toE.cs.take (i.toNat*T.sz E+off)++[C.any]++e.toE.cs.drop (i.toNat*T.sz E+off+[C.any].length))).look r=some er.toE:=
      c3.look_of (hmem _ (List.mem_map.2 ⟨er,r2,rfl⟩) (by rw [DE.toE_id,r3];exact hrid)) (by rw [DE.toE_id,r3]) hrd (by rw [hr1];rfl)
     have hsl:(e.toE.cs.take (i.toNat*T.sz E+off)++[C.any]++e.toE.cs.drop (i.toNat*T.sz E+off+[C.any].length)).length =e.toE.cs.length:=by simp;omega
     obtain⟨G',q⟩:=c3.absorbL (p:=ME [r] id) [⟨i.toNat*T.sz E+off,r,F,T.sz F,yy.length,yy.flatMap (T.enc F)⟩] hL2 hb1 (fun ar har=>by
      rcases List.mem_singleton.1 har with rfl
      exact⟨by rw [hLr,hr1];rfl,by rw [hsl];exact hk,V9 (by simp),_,hcell,hyv.1⟩) (by simp) ((st.killD (ME [r] id)).setX id (.deep E nn (l.set i.toNat (T.bd E z)) none)).toSt (by
      have hnew:TB (id,(DX.deep E nn (l.set i.toNat (T.bd E z)) none:DX T))=⟨id,e.toE.row,Gy (e.toE.cs.take (i.toNat*T.sz E+off)++[C.any]++e.toE.cs.drop (i.toNat*T.sz E+off+[C.any].length)) [⟨i.toNat*T.sz E+off,r,F,T.sz F,yy.length,yy.flatMap (T.enc F)⟩],true⟩:=by
       show (⟨id,some (E,T.sz E,(l.set i.toNat (T.bd E z)).length),Aw T E nn 0 (l.set i.toNat (T.bd E z)),true⟩:As)=_
       have htl:(e.toE.cs.take (i.toNat*T.sz E+off)).length =i.toNat*T.sz E+off:=by rw [List.length_take];omega
       simp only [Gy,List.foldl_cons,List.foldl_nil,hE,List.length_set]
       congr 1
       rw [←hcells]
       apply List.ext_getElem?
       intro j
       have htl2:((A4 T E nn l hh).take (i.toNat*T.sz E+off)).length =i.toNat*T.sz E+off:=by rw [hE]at htl;exact htl
       have hkk:i.toNat*T.sz E+off<(A4 T E nn l hh).length :=by rw [hE]at hk;exact hk
       simp only [List.getElem?_set]
       by_cases hj:i.toNat*T.sz E+off=j
       ·subst hj
        rw [if_pos rfl,if_pos rfl,if_pos (by omega),if_pos (by simp;omega)]
       ·rw [if_neg hj,if_neg hj,List.append_assoc]
        by_cases hjk:j<i.toNat*T.sz E+off
        ·rw [List.getElem?_append_left (by omega),List.getElem?_take,if_pos hjk]
        ·rw [List.getElem?_append_right (by omega),htl2,List.getElem?_append_right (by simp;omega),List.getElem?_drop]
         congr 1
         simp
         omega
      have hB:=O3 (ns:=[r]) hw (p:=ME [r] id) (fun n hn=>by rcases List.mem_singleton.1 hn with rfl;exact P7 (by simp)) n2.ok hnew
      exact⟨hB.len,hB.tm,hB.glen,hB.gh,fun x hx=>(hB.so x hx).imp (fun q=>q) (fun⟨q1,q2,q3,q4⟩=>⟨hmem _ q1 q2,q2,q3,q4⟩),hB.nd,hB.pre⟩)
     exact Es hrun (by rw [hd];exact⟨_,G',hK,q⟩)
    ·exact Yl.no
   ·exact Yl.no
  ·exact Yl.no
 ·exact Yl.no
end Go.PL
