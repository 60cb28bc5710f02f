/- The pure logic: Tu6, Tu7, Tu8, Tu9, Tua, Tub, Tuc, Tx, Tud, Tp, Tw, PlYi, Tz, Tw2. -/
import Derived.Test.YteginlijmbcopaaGreatDoorPlYctoTu5
import Derived.Test.YteginlijmbcopaaGreatDoorPlPftoPlYb
open List (mem_map mem_filter mem_cons map_cons all_eq_true mem_range nodup_cons flatMap_cons map_append map_map any_eq_true all_cons mem_singleton map_congr_left filter_sublist map_nil mem_append getElem?_set)
open Bool (and_eq_true not_eq_true' or_eq_true or_eq_false_iff)
open Nat (beq_eq le_refl lt_of_lt_of_le le_trans blt_eq zero_add le_succ add_mul mul_one ble_eq)
open Option.some (injEq)
open Option (bind_eq_some_iff map_some)
set_option linter.all false
set_option linter.all false
namespace Go.PL
open Go Go.RowKit
variable {T:Bm}
def dtr (d:Nat) (st:Af T):M (Af T):=match st.get d with
 | .c (.bs id E0 o n)=>match DN st id with
   | some ⟨E,l⟩=>Tf (Nat.beq E0 E) (.opt (n_ (o=0/\n<=(l.length:Nat)/\0<l.length)) fun _=>match st.new id (.row E (l.take n.toNat))with
     | some s=> .ret (s.put (some d) (.c (.c (.j_ id))))
     | none=> .no)
   | none=> .no
 | _=> .no
theorem Acf {H:Ax T} {st:Af T} (hw:AI H st) {d:Nat}:Yl (dtr d st) (fun a_=>(∃ H',Nx H st H' a_)/\a_.pre=st.pre/\Wk st.toSt a_.toSt):=by
 unfold dtr;split
 ·rename_i id E0 o n hs;split
  ·rename_i E l hr;refine Yl.Tf fun hg=>Yl.opt fun u hn=>?_;have hg:=Nat.eq_of_beq_eq_true hg;subst hg;have hn:=CJ hn;have hok:=Af.af2 hw d;rw [hs]at hok;simp only [DV.ok,DC.ok]at hok;split
   ·rename_i s aam;refine Yl.ret ?_;obtain⟨⟨H1,n1⟩,h2,h3⟩:=Af.aca hw (x:= .row E0 (l.take n.toNat)) trivial aam;obtain⟨H2,n2⟩:=Af.H_ n1 (some d) (v:= .c (.c (.j_ id))) (by simp only [DV.ok,DC.ok]);refine⟨⟨H2,n2⟩,by rw [AU];exact h3,fun F a w G hR=>?_⟩;have hsl:=hR.w_ d;have hge:=st.aaZ d;rw [hs]at hge;have hsl:Ab w G (st.toSt.get d) (a.tmps.getD d Go.undef):=hsl;rw [hge]at hsl;simp only [DV.toV,DC.toC,Ab,Ae]at hsl;obtain⟨b1,ag1,ahV,o1,abN,x1,x2,x3,x4,x5⟩:=hsl;obtain⟨v,v1,v2⟩:=hR.acH hr;rw [x1]at v1;injection v1 with v1;rcases v2 with ⟨p,_,v2⟩ | ⟨b,cap,cur,q,v3,v4,v5,v6,v7,v8⟩
    ·omega
    rw [q]at v1;injection v1 with k1 k2 k3;injection k1 with k1;injection k1 with k1;subst k1 k2 k3;have ho1:o1=0:=by grind
    have hc1:abN=ahV:=by grind
    subst ho1 hc1;have aii:Am ((l.take n.toNat).flatMap (T.enc E0))=true:=AV _ (fun y=>by have:=Dr (T:=T) (.s E0) y;grind [EE,V.pure]) _;have hlt:b1<w.heap.size:=(by grind);have aey:=hR.set ⟨id,some (E0,T.sz E0,(l.take n.toNat).length),(l.take n.toNat).flatMap (T.enc E0),true⟩ (some b1) (some (a.tmps.getD d Go.undef)) ⟨rfl,rfl,rfl⟩ (le_refl _) (fun _ _ _=>rfl) (fun _ _ _=>rfl) (fun b' hb'=>by
     injection hb' with hb';subst hb';exact⟨.inr ⟨v3,Co.same rfl⟩,hlt⟩) (fun _=>aii) (by
     refine JZ (Au.adf _ _) ⟨?_,a.tmps.getD d Go.undef,by simp [Ci,Au.P_], .inr ⟨b1,abN,cur,?_,by simp [Ci,Au.P_],v4,?_,v6,v7,?_⟩⟩
     ·show ((l.take n.toNat).flatMap (T.enc E0)).length =_;grind [Yg,AS]
     ·grind
     ·grind
     ·show Al w (Ci F G id (some b1) (some (a.tmps.getD d Go.undef))) ((l.take n.toNat).flatMap (T.enc E0)) b1 0;have hk:=hR.keeps id (some b1) (some (a.tmps.getD d Go.undef)) (by grind) (fun _ _ _=>rfl) (fun b' hb'=>by injection hb' with hb';subst hb';exact .inr ⟨v3,Co.same rfl⟩);have:=v8.take (n.toNat*T.sz E0);rw [Hx (fun y=>AS E0 y)]at this;exact Al.mono hk _ _ _ (fun i hi=>absurd (show BU i ((l.take n.toNat).flatMap (T.enc E0))=true from hi) (by rw [AQ i _ aii];simp)) (fun _=>rfl) this)
    have hl:=aey.less h2;refine⟨Ci F G id (some b1) (some (a.tmps.getD d Go.undef)),?_⟩;rw [Af.k_];exact hl.aeS (by simp only [DV.toV,DC.toC,Ab,Ae];exact⟨by simp [Ci],by rw [x2];rfl⟩)
   ·exact Yl.no
  ·exact Yl.no
 ·exact Yl.no
def dpn (r:Ah) (st:Af T):Option (Af T):=match DN st r with
 | some ⟨E,l⟩=>some (Bn [(1000003::r, .deep E 0 l none)] (st.IN (fun i=>match Bc i r with | true=>true | false=>match Bc i (1000003::r)with | true=>true | false=>LH.adX (1000003::r) i)))
 | none=>none
def ddp (d:Nat) (st:Af T):M (Af T):=match st.get d with
 | .c x=>match K7 x with
   | some r=>match dpn r st with
     | some s=> .ret (s.put (some d) (.c (.c (.j_ (1000003::r)))))
     | none=> .no
   | none=> .no
 | _=> .no
theorem Yh (E:Nat): ∀ (k:Int) (l:List (T.den E)),0<=k->AC T E 0 k l=l.flatMap (T.enc E)
 | _,[],_=>rfl
 | k,x::l,h=>by rw [AC,if_neg (by omega),Yh E (k+1) l (by omega),flatMap_cons]
theorem yH (E:Nat) (x:T.den E):(T.enc E x).all lZ=true:=by
 rw [<-T.aaT];have: ∀ (ks:List Kd) (y:DK T.den ks),(BG T.enc ks y).all lZ=true:=by
  intro ks;induction ks with
  | nil=>intro _;rfl
  | cons k ks ih=>
    intro y;simp only [BG,all_cons,and_eq_true];exact⟨by cases k<;>rfl,ih y.2⟩
 grind
theorem jW {H:Ax T} {st s:Af T} (hw:AI H st) {r:Ah} (h:dpn r st=some s):(∃ H',Nx H st H' s)/\s.pre=st.pre/\ ∀ (F:Fr) (a:Act) (w:World) (G:AF),R F st.toSt a w G-> ∃ G',R F s.toSt a w G'/\G'.own (1000003::r)=G.own r:=by
 unfold dpn at h;split at h
 ·rename_i E l hr;injection h with h;subst h;have hp:(fun i=>match Bc i r with | true=>true | false=>match Bc i (1000003::r)with | true=>true | false=>LH.adX (1000003::r) i)=(fun i=>i==r||(i==1000003::r||DM (1000003::r) i)):=by grind [CW,Lb]
  rw [hp];obtain⟨⟨H1,n1⟩,k1,k2,k3,k4,k5⟩:=Af.ab0 hw (fun i=>i==r||(i==1000003::r||DM (1000003::r) i));obtain⟨H2,n2⟩:=JJ (l:=[(1000003::r,DX.deep E 0 l none)]) n1 (fun p hp=>by rcases mem_singleton.1 hp with rfl;trivial) (by simp) (fun p hp e he q=>by grind)
  obtain⟨s1,s2,s3,s4,s5,_⟩:=EH [(1000003::r,DX.deep E 0 l none)] (st.IN (fun i=>i==r||(i==1000003::r||DM (1000003::r) i)));refine⟨⟨H2,n2⟩,by grind,fun F a w G hR=>?_⟩;obtain⟨q1,_,e,q2,q3,q4⟩:=BQ hr;obtain⟨G',g1,g2⟩:=hR.anl q1 rfl rfl (by
   grind [yH]) (id:=1000003::r) rfl rfl
  refine⟨G',?_,g2⟩;have ahh:B8 (st.toSt.e_ (fun i=>i==r||(i==1000003::r||DM (1000003::r) i)) (⟨1000003::r,some (E,T.sz E,l.length),l.flatMap (T.enc E),true⟩::((st.toSt.so.filter (fun d=>d.id != r&&d.id != 1000003::r)).map (Au.e_ (fun i=>i==r||(i==1000003::r||DM (1000003::r) i))))))
   (Bn [(1000003::r,DX.deep E 0 l none)] (st.IN (fun i=>i==r||(i==1000003::r||DM (1000003::r) i)))).toSt :=by
   refine Lc ?_ ?_ ?_ (FQ n2.ok) ?_
   ·have:(Bn [(1000003::r,DX.deep E 0 l none)] (st.IN (fun i=>i==r||(i==1000003::r||DM (1000003::r) i)))).toSt.tm =(st.IN (fun i=>i==r||(i==1000003::r||DM (1000003::r) i))).toSt.tm :=by grind [Af.toSt]
    rw [this];exact k1
   ·have:(Bn [(1000003::r,DX.deep E 0 l none)] (st.IN (fun i=>i==r||(i==1000003::r||DM (1000003::r) i)))).toSt.gh =(st.IN (fun i=>i==r||(i==1000003::r||DM (1000003::r) i))).toSt.gh :=by simp only [Af.toSt,s2]
    rw [this];exact k2
   ·intro z hz;rw [s5]at hz;simp only [map_cons,map_nil,List.singleton_append,mem_cons]at hz;simp only [St.e_,mem_cons,mem_map,mem_filter];rcases hz with rfl | hz
    ·left;show (⟨1000003::r,some (E,T.sz E,l.length),AC T E 0 0 l,true⟩:Au)=_;simp_all [Yh]
    grind
   ·show (Bn _ _).pre =st.pre;grind
  exact g1.less ahh
 ·cases h
theorem u0 {H:Ax T} {st:Af T} (hw:AI H st) {d:Nat}:Yl (ddp d st) (fun a_=>(∃ H',Nx H st H' a_)/\a_.pre=st.pre/\Wk st.toSt a_.toSt):=by
 unfold ddp;split
 ·rename_i x hs;split
  ·rename_i r ho;have:=EB ho;subst this;split
   ·rename_i s hr;obtain⟨⟨H2,n2⟩,p2,k2⟩:=jW hw hr;obtain⟨H3,n3⟩:=Af.H_ n2 (some d) (v:= .c (.c (.j_ (1000003::r)))) (by simp only [DV.ok,DC.ok]);refine Yl.ret ⟨⟨H3,n3⟩,by rw [AU,p2],fun F a w G hR=>?_⟩;have hsl:Ab w G (st.toSt.get d) (a.tmps.getD d Go.undef):=hR.w_ d;rw [st.aaZ d,hs]at hsl;simp only [DV.toV,DC.toC,Ab,Ae]at hsl;obtain⟨G',g1,g2⟩:=k2 F a w G hR;refine⟨G',?_⟩;rw [Af.k_];exact g1.aeS (by simp_all [DV.toV,DC.toC,Ab,Ae])
   ·exact Yl.no
  ·exact Yl.no
 ·exact Yl.no
def nH (id:Ah) (E:Nat) (l:List (T.den E)) (c:DC T):DC T:=match K7 c with
 | some i=>match Bc i id with
   | true=> .k (.t_ E) l
   | false=>MZ (fun i=>match Bc i id with | true=>true | false=>LH.adX id i) c
 | none=>MZ (fun i=>match Bc i id with | true=>true | false=>LH.adX id i) c
def Yi (id:Ah) (E:Nat) (l:List (T.den E)):DV T->DV T
 | .c x=> .c (nH id E l x)
 | .agg cs=> .agg (cs.map (nH id E l))
 | _=> .u
def nI (id:Ah) (E:Nat) (l:List (T.den E)):DX T->DX T
 | .box cs=> .box (cs.map (nH id E l))
 | x=>x
def pFT (id i:Ah):Bool:=match Bc i id with
 | true=>true
 | false=>LH.adX id i
theorem u5 (id:Ah):pFT id=pF id:=by grind [pFT,pF,CW,Lb]
def Af.aq8 (st:Af T) (id:Ah):Option (Af T):=match Ep id with
 | false=>none
 | true=>match Ki st id with
   | some ⟨E,(_,l,none)⟩=>some (let s:=st.adE (DV.i_ (pFT id)) (Yi id E l) (DX.i_ (pFT id)) (nI id E l);{s with so:=s.so.filter fun e=> !(Bc e.id id)})
   | _=>none
theorem Yj (id:Ah) (E:Nat) (l:List (T.den E)) (c:DC T):(nH id E l c).toC =SW id l.length (l.flatMap (T.enc E)) c.toC:=by
 have hp:(fun i=>match Bc i id with | true=>true | false=>LH.adX id i)=pF id:=u5 id;unfold nH;rw [hp];split
 ·rename_i i ho;have:=EB ho;grind [AP,DC.toC,Bk,pn,Ov,Wp]
 grind [Ov,Wp,MV]
theorem pV {id:Ah} {E:Nat} {l:List (T.den E)} {c:DC T} (h:c.ok):(nH id E l c).ok :=by grind [nH,DC.ok,X9]
theorem Ww {id:Ah} {n:Nat} {ds:List C}: ∀ {l:List C},CO (pF id) l=false->l.map (SW id n ds)=l
 | [],_=>rfl
 | c::l,h=>by simp only [CO,or_eq_false_iff]at h;rw [map_cons,Ww h.2,Wp,Cy,if_neg (by simp [h.1])];grind [C.i_,pF]
theorem yI {id:Ah} {n:Nat} {ds:List C} {v:V} (h:v.i_ (pF id)=false):Pz id n ds v=v:=by
 cases v with
 | c x=>
   have:=Ww (n:=n) (ds:=ds) (l:=[x]) (by simpa [CO,V.i_] using h);grind [Pz]
 | agg cs=>grind [Pz,Ww,V.i_]
 | tup vs=>exact Pf h
 | g b x=>exact Pf h
 | undef=>exact Pf h
theorem fA (id:Ah) (l:List (DE T)):(l.filter fun e=> !(Bc e.id id)).map DE.toE=(l.map DE.toE).filter (fun d=>d.id != id):=agh id l
theorem sd {H:Ax T} {st a_:Af T} {id:Ah} (h:AI H st) (hk:st.aq8 id=some a_):(∃ H',Nx H st H' a_)/\Wk st.toSt a_.toSt/\a_.pre=st.pre:=by
 unfold Af.aq8 at hk;split at hk
 ·cases hk
 ·rename_i hd;split at hk
  ·rename_i E n l hr;injection hk with hk;subst hk;rw [u5];obtain⟨H',hN⟩:=Af.adW (p:=DV.i_ (pF id)) (f:=Yi id E l) (q:=DX.i_ (pF id)) (g:=nI id E l) h (fun {H n v} hv=>by
    cases v<;>grind [Yi,DV.ok,pV,RC]) (fun {x} hx=>by
    cases x<;>grind [nI,DX.ok,RC,pV])
   refine⟨⟨H',hN.ext,hN.le,Ez hN.ok _⟩,fun F a w G hR=>?_,rfl⟩;obtain⟨hmk,_,e,e1,e2,e3⟩:=B9 hr;have hE:e.toE=⟨id,some (E,T.sz E,l.length),AC T E n 0 l,true⟩:=by unfold DE.toE;rw [e3,e2];rfl
   have hL:st.toSt.K_ id=some e.toE:=hR.M_ (mem_map.2 ⟨e,e1,rfl⟩) (by rw [hE]) hd;obtain⟨G',g⟩:=hR.aoT hL (by rw [hE]) (cells:=l.flatMap (T.enc E)) (by grind [QC]);refine⟨G',g.less ?_⟩;have f1: ∀ v:DV T,v.i_ (pF id)=true->(Yi id E l v).toV = .undef \/(Yi id E l v).toV =Pz id l.length (l.flatMap (T.enc E)) v.toV:=fun v _=>by
    cases v with
    | c x=>grind [Yi,DV.toV,Pz,Yj]
    | agg cs=>
      right;simp only [Yi,DV.toV,Pz,CP,map_map];grind [map_congr_left,Yj]
    | _=>grind [Yi,DV.toV]
   have f2: ∀ v:DV T,v.i_ (pF id)=false->Pz id l.length (l.flatMap (T.enc E)) v.toV=v.toV:=(by grind [yI,DV.afp]);have sl: ∀ (m n:Nat) (tm:Tm T),JG ((AE m tm).map (Pz id l.length (l.flatMap (T.enc E)))) (AE m (PA (DV.i_ (pF id)) (Yi id E l) n tm)):=fun m n tm=>by unfold AE;rw [map_map];refine JG.map fun i _=>?_;simp only [Function.comp,MS (p:=DV.i_ (pF id)) (f:=Yi id E l) (by simp [DV.i_])];grind
   have gl: ∀ (g:List (Nat×Tm T)) (n:Nat),JG ((g.flatMap fun f=>AE f.1 f.2).map (Pz id l.length (l.flatMap (T.enc E)))) ((Qo (DV.i_ (pF id)) (Yi id E l) n g).flatMap fun f=>AE f.1 f.2):=by
    intro g;induction g with
    | nil=>intro _;trivial
    | cons x r ih=>
      intro n;obtain⟨m,tm⟩:=x;simp only [Qo,flatMap_cons,map_append];exact(sl m n tm).append (ih _)
   refine Lc (sl _ _ _) (gl _ _) ?_ (FQ (Ez hN.ok _)) rfl;intro z hz;have hz:z∈((Qp (DX.i_ (pF id)) (nI id E l) (st.nx+st.tm.length+Nv st.gh) st.so).filter fun e=> !(Bc e.id id)).map DE.toE:=hz;have hF: ∀ x∈st.so,(DX.i_ (pF id) x.x=true-> ∀ t,(⟨x.id,t,nI id E l x.x⟩:DE T).toE =Au.frD id l.length (l.flatMap (T.enc E)) x.toE)/\(DX.i_ (pF id) x.x=false->Au.frD id l.length (l.flatMap (T.enc E)) x.toE=x.toE):=by
    intro x _;have base: ∀ t,(⟨x.id,t,nI id E l x.x⟩:DE T).toE =Au.frD id l.length (l.flatMap (T.enc E)) x.toE:=fun t=>by
     unfold DE.toE;cases hxx:x.x with
     | box cs=>
       simp only [nI,Au.frD,CP,map_map,Au.mk.injEq,and_true,true_and];grind [map_congr_left,Yj]
     | row E l=>rfl
     | deep E n l h=>rfl
    grind [DE.toE,DX.i_,GD,Au.frD,Ww]
   rw [fA,Og (F:=Au.frD id l.length (l.flatMap (T.enc E))) _ hF]at hz;obtain⟨h1,h2⟩:=mem_filter.1 hz;obtain⟨d,h3,rfl⟩:=mem_map.1 h1;refine mem_map.2 ⟨d,mem_filter.2 ⟨h3,?_⟩,rfl⟩;have:(Au.frD id l.length (l.flatMap (T.enc E)) d).id =d.id:=by obtain⟨i,r,cs,_ | _⟩:=d<;>rfl
   grind
  ·cases hk
end Go.PL
namespace Go.PL
open Go Go.RowKit
variable {T:Bm}
theorem QF: ∀ {vs:List Value} {l:List C},Ee vs=some l-> ∀ v∈vs,(CY v).isSome =true
 | [],_,_,v,hv=>by cases hv
 | x::vs,l,h,v,hv=>by
   unfold Ee at h;split at h
   ·rename_i c cs h1 h2;rcases mem_cons.1 hv with rfl | hv
    ·rw [h1];rfl
    ·exact QF h2 v hv
   ·cases h
theorem jX {P:Program} {st:St} {w:World} {G:AF} {d:Nat} {t:TypeId} {l c:V} {u v:Value} (hx:Ab w G l u) (hy:Ab w G c v) (hs:(K0 P st d t l c).1) {r:Value} {w':World} (hr:(Instr.makeSlice t u v).run P w= .ok r w'):
 ∃ len cap,r= .slice (some ⟨w.heap.size,0,none⟩) len cap/\ ∀ k v,w'.cell? ⟨w.heap.size,k,none⟩=some v->(CY v).isSome =true:=by
 unfold K0 at hs;split at hs
 ·rename_i k1 l k2 c E n by' abg;split at hs
  ·rename_i z hz;obtain⟨h0,h1,h2,h3,h4,h5⟩:=hs;obtain⟨i,zv,hu,hi,hzv,hsz,hby,hzs⟩:=DJ abg;obtain⟨i',zv',hi',acx,hc⟩:=Hr hz;rw [hi]at hi';injection hi' with hi';subst hi';rw [hzv]at acx;injection acx with acx;subst acx;have hM:maxLen=9223372036854775807:=rfl;simp only [Ab,Ae]at hx hy;subst hx hy;have s_:=run_make (P:=P) w t E i zv hu hi hzv k1 k2 l c h0 h1 (by rw [hby,Int.mul_comm];omega) (by omega);rw [s_]at hr;injection hr with hr1 hr2;subst hr1 hr2;refine⟨_,_,rfl,fun k v hv=>?_⟩;have ae1:=QF hc;have abq:(madeCells zv.cells (c.toNat*i.size))[k]? =some v:=by simp_all
   have hk:k<c.toNat*i.size:=by grind [madeCells]
   have hz0:0<zv.cells.size:=by grind
   grind [madeCells,Nat.mod_lt]
  grind
 grind
theorem Acg {w:World} {G:AF} {n:Nat} {cs:List C} {v:Value} (h:Ae w G (.sl n cs) v) (hc:(CY v).isSome =true):v= .slice none 0 0/\n=0/\cs=[]:=by simp only [Ae]at h;obtain⟨_,a,cap,rfl,h1,_,h3,_⟩:=h;unfold CY at hc;grind
theorem Yk: ∀ {ks:List Kd} {y:DK T.den ks} {p:Nat} {c:C},(BX T ks y)[p]? =some c->(∃ F n cs,c= .isl F (T.sz F) n cs/\(BG T.enc ks y)[p]? =some (.sl n cs))\/((BG T.enc ks y)[p]? =some c/\lZ c=true)
 | [],_,_,_,h=>by simp [BX]at h
 | k::ks,y,0,c,h=>by
   simp only [BX,List.getElem?_cons_zero,injEq]at h;simp only [BG,List.getElem?_cons_zero,injEq];cases k with
   | t_ F=>exact .inl ⟨F,_,_,h.symm,rfl⟩
   | int _=>exact .inr ⟨h,by rw [<-h];rfl⟩
   | bool=>exact .inr ⟨h,by rw [<-h];rfl⟩
   | str=>exact .inr ⟨h,by rw [<-h];rfl⟩
 | k::ks,y,p+1,c,h=>by simp only [BX,List.getElem?_cons_succ]at h;simp only [BG,List.getElem?_cons_succ];exact Yk h
theorem Ym {E:Nat} {n:Int}: ∀ {l:List (T.den E)} {k:Int} {j:Nat} {c:C},k+l.length<=n->(AC T E n k l)[j]? =some c->(∃ F m cs,c= .isl F (T.sz F) m cs/\(l.flatMap (T.enc E))[j]? =some (.sl m cs))\/((l.flatMap (T.enc E))[j]? =some c/\lZ c=true)
 | [],_,_,_,_,h=>by simp [AC]at h
 | x::l,k,j,c,hn,h=>by
   simp only [AC,List.length_cons]at h hn;rw [if_pos (by omega)]at h;have hl:(T.aaV E x).length =(T.enc E x).length :=by
    unfold Bm.aaV;rw [<-T.aaT];have: ∀ (ks:List Kd) (y:DK T.den ks),(BX T ks y).length =(BG T.enc ks y).length :=by intro ks;induction ks<;>grind [BX,BG]
    grind
   rw [flatMap_cons];by_cases hj:j<(T.aaV E x).length
   ·rw [List.getElem?_append_left hj]at h;rw [List.getElem?_append_left (by omega), <-T.aaT];exact Yk h
   ·rw [List.getElem?_append_right (by omega)]at h;rw [List.getElem?_append_right (by omega), <-hl];exact Ym (by omega) h
theorem RL {E:Nat} {n:Int}: ∀ (l:List (T.den E)) (k:Int),Am (AC T E n k l)=true
 | [],_=>rfl
 | x::l,k=>by
   rw [AC,BZ,RL l (k+1),Bool.and_true];split
   ·exact rZ E x
   ·have:=Dr (T:=T) (.s E) x;grind [EE,V.pure]
def Ach:Int->Bool
 | .ofNat 0=>true
 | _=>false
theorem se {n:Int} (h:Ach n=true):n=0:=by grind [Ach]
def yJ (P:Program) (o:Oper) (st:Af T) (d:Nat):M (Af T):= .Q_ (rE P st o) fun st1=> .Q_ (ddp d st1) fun st2=>match st2.get d with
    | .c (.c (.j_ id))=>match Ki st2 id with
      | some ⟨E,(nn,l,none)⟩=>Tf (Ep id&&(Nat.blt d st2.m&&Ach nn)) (.opt (n_ (0<l.length)) fun _=> .ret ((st2.IN (LH.adX id)).abe id (.deep E (List.length l:Nat) l none)))
      | _=> .no
    | _=> .no
def nJ:DC T->Bool
 | .k (.t_ _) _=>false
 | .k _ _=>true
 | .c .L_ =>true
 | _=>false
def yK:List (DC T)->Bool
 | []=>true
 | c::r=>nJ c&&yK r
def TS:List (Nat×DV T)->Bool
 | []=>true
 | (_, .agg cs)::r=>yK cs&&TS r
 | _=>false
def dmk (P:Program) (o:Oper) (st:Af T):M (Af T):=match o.op,o.dst with
 | .makeSlice _ _ _,some d=>yJ P o st d
 | .buildSlice _ _ ps,some d=>match HB st [] ps.toList with
   | some vs=>Tf (TS vs) (yJ P o st d)
   | none=> .no
 | _,_=> .no
theorem Yn {place:Nat->Option (Nat×Nat)}: ∀ {qs:List (Nat×Value)} {arr out:Array Value},Instr.fill place arr qs=some out->(∀ v∈arr.toList,(CY v).isSome =true)->(∀ q∈qs, ∀ v∈q.2.cells.toList,(CY v).isSome =true)-> ∀ v∈out.toList,(CY v).isSome =true
 | [],arr,out,h,ha,_=>by simp only [Instr.fill,injEq]at h;subst h;exact ha
 | (i,v)::r,arr,out,h,ha,hq=>by
   simp only [Instr.fill]at h;split at h
   ·cases h
   ·rename_i off size hp;split at h
    ·cases h
    ·rename_i hb;refine Yn h (fun u hu=>?_) (fun q hq'=>hq q (by simp [hq']));have e:=bR v.cells.toList off 0 arr (by simp at hb ⊢;omega);rw [<-Array.foldl_toList,Array.toList_zipIdx,e]at hu;rcases mem_append.1 hu with hu | hu
     ·rcases mem_append.1 hu with hu | hu
      ·exact ha u (List.mem_of_mem_take hu)
      ·exact hq (i,v) (by simp) u hu
     ·exact ha u (List.mem_of_mem_drop hu)
theorem nK {w:World} {G:AF} {c:DC T} {v:Value} (h:nJ c=true) (hr:Ae w G c.toC v):(CY v).isSome =true:=by
 unfold nJ at h;split at h
 ·cases h
 ·rename_i kd x _;cases kd<;>simp only [DC.toC,Bk,Ae]at hr<;>first | (subst hr;rfl) | (rename_i Tg;exact(Tg _ _ rfl).elim) | grind
 ·simp only [DC.toC,Ae]at hr;subst hr;rfl
 ·cases h
theorem jY {w:World} {G:AF}: ∀ {cs:List (DC T)} {vs:List Value},yK cs=true->Ai w G (Av cs) vs-> ∀ v∈vs,(CY v).isSome =true
 | [],[],_,_,v,hv=>by cases hv
 | [],_::_,_,h,_,_=>by simp [Av,Ai]at h
 | _::_,[],_,h,_,_=>by simp [Av,Ai]at h
 | c::cs,u::us,hd,h,v,hv=>by
   simp only [yK,and_eq_true]at hd;simp only [Av,Ai]at h;rcases mem_cons.1 hv with rfl | hv
   ·exact nK hd.1 h.1
   ·exact jY hd.2 h.2 v hv
theorem Vj {w:World} {G:AF}: ∀ {ps:List (Nat×DV T)} {qs:List (Nat×Value)},TS ps=true->NV w G (jz ps) qs-> ∀ q∈qs, ∀ v∈q.2.cells.toList,(CY v).isSome =true
 | [],[],_,_,q,hq=>by cases hq
 | [],_::_,_,h,_,_=>by simp [jz,NV]at h
 | (i,x)::ps,[],_,h,_,_=>by simp [jz,NV]at h
 | (i,x)::ps,(j,u)::qs,hc,h,q,hq=>by
   simp only [jz,map_cons,NV]at h;cases x with
   | agg cs=>
     simp only [TS,and_eq_true]at hc;rcases mem_cons.1 hq with rfl | hq
     ·simp only [DV.toV,Ab]at h;obtain⟨_,⟨arr,rfl,h2⟩,_⟩:=h;exact jY hc.1 h2
     ·exact Vj (ps:=ps) hc.2 h.2.2 q hq
   | _=>simp [TS]at hc
def MkC (P:Program) (st:St) (o:Oper):Prop:= ∀ (F:Fr) (a:Act) (w:World) (G:AF),R F st a w G->(ef P st o).1-> ∃ len cap w0,(execOp a.eval o).run P w= .ok (.value (.slice (some ⟨w.heap.size,0,none⟩) len cap)) w0/\ ∀ k v,w0.cell? ⟨w.heap.size,k,none⟩=some v->(CY v).isSome =true
theorem u7 {P:Program} {st:St} {o:Oper} {t:TypeId} {lo co:Operand} {d:Nat} (hop:o.op= .makeSlice t lo co) (hd:o.dst=some d):MkC P st o:=by
 intro F a w G hR e1;have alo:(K0 P st d t (st.arg true lo).2 (st.arg true co).2).1/\(st.arg true lo).1/\(st.arg true co).1:=by grind [ef]
 have hx:=hR.arg rfl alo.2.1;have hy:=hR.arg rfl alo.2.2;obtain⟨r0,w0,G0,m1,_⟩:=UH (d:=d) hR hx hy alo.1;obtain⟨len,cap,rfl,hcells⟩:=jX hx hy alo.1 m1;exact⟨len,cap,w0,by simp [execOp,hop,m1],hcells⟩
theorem sf {H:Ax T} {P:Program} {st:Af T} (hw:AI H st) {o:Oper} {t:TypeId} {len:Nat} {ps:Array (Nat×Operand)} {d:Nat} {vs:List (Nat×DV T)} (hop:o.op= .buildSlice t len ps) (hd:o.dst=some d) (hp:HB st [] ps.toList=some vs) (hc:TS vs=true):MkC P st.toSt o:=by
 intro F a w G hR e1;have hs:(Bf P st.toSt d t len ps.toList).1:=by obtain⟨dst,op,ty,pos,aft,gd⟩:=o;simp only at hop hd;subst hop hd;exact e1
 unfold Bf at hs;split at hs
 ·rename_i E n by' abg;split at hs
  ·rename_i z hz;split at hs
   ·rename_i cs hf;obtain⟨h1,h2,h3,h4⟩:=hs;obtain⟨i,zv,hu,hi,hzv,hsz,hby,hzs⟩:=DJ abg;obtain⟨i',zv',hi',acx,hcz⟩:=Hr hz;rw [hi]at hi';injection hi' with hi';subst hi';rw [hzv]at acx;injection acx with acx;subst acx;have hzr:=L5 (FX (w:=w) (G:=G) hcz) (by omega) len;obtain⟨aa5,q1,q2⟩:=J3 hf (O4 (hR.parts rfl h1)) hzr;have q1':Instr.fill (fun i=>some (i*n,n)) ((Array.range (len*n)).map (zv.cells[· % zv.cells.size]!)) (ps.map fun(i,x)=>(i,a.eval x)).toList =some aa5:=by simp_all
    have hrp:NV w G (jz vs) (ps.map fun(i,x)=>(i,a.eval x)).toList :=by obtain⟨_,_,p3⟩:=Gx (key:=[]) hw (fun _ hl=>by cases hl) rfl hp;change (st.toSt.parts true ps.toList).2=jz vs at p3;have:=hR.parts rfl h1;rw [p3]at this;rw [Array.toList_map];exact this
    have hz0:0<zv.cells.size:=by grind
    have ae1:=QF hcz;have hconst:=Yn q1' (fun v hv=>by simp only [Array.toList_map,Array.toList_range,mem_map,mem_range]at hv;obtain⟨k,_,rfl⟩:=hv;have hlt:k % zv.cells.size<zv.cells.size:=Nat.mod_lt _ hz0;rw [getElem!_pos zv.cells _ hlt];exact ae1 _ (by simp)) (Vj hc hrp)
    have s_:=acm (P:=P) (w:=w) (ps:=ps.map fun(i,x)=>(i,a.eval x)) hu hi hzv hsz h3 h4 q1';refine⟨len,len,w.alloc (.cells aa5 E),by simp [execOp,hop,s_],fun k v hv=>?_⟩;have abq:aa5[k]? =some v:=by simp_all
    exact hconst v (by grind)
   ·exact hs.elim
  ·exact hs.elim
 ·exact hs.elim
theorem pW {H:Ax T} {P:Program} {I:World->Prop} {st:Af T} (hw:AI H st) {o:Oper} {d:Nat} (hd:o.dst=some d) (hmk:MkC P st.toSt o):Yl (yJ P o st d) (fun a_=>(∃ H',Nx H st H' a_)/\a_.pre=st.pre/\ ∀ K:St->Prop,K a_.toSt->DL P I o st.toSt K):=by
 unfold yJ
 ·refine Yl.Q_ (Wt hw o) fun st1 h1=>?_;obtain⟨⟨H1,n1⟩,e1,e2,p1⟩:=h1;refine Yl.Q_ (u0 n1.ok) fun st2 h2=>?_;obtain⟨⟨H2,n2⟩,p2,w2⟩:=h2;split
  ·rename_i id hg;split
   ·rename_i E nn l hdr;refine Yl.Tf fun hb=>Yl.opt fun u hu=>Yl.ret ?_;simp only [and_eq_true,blt_eq]at hb;obtain⟨hb1,hb2,hb3⟩:=hb;have hnn:=se hb3;subst hnn;have hlen:0<l.length:=CJ hu;have hp:(LH.adX id)=DM id:=funext fun i=>Lb id i;rw [hp];obtain⟨⟨H3,n3⟩,k1,k2,k3,k4,k5⟩:=Af.ab0 n2.ok (DM id);obtain⟨H4,n4⟩:=Af.aa8 n3.ok id (x:= .deep E (List.length l:Nat) l none) trivial;refine⟨⟨H4,((n1.trans n2).trans n3).trans n4⟩,by show (st2.IN (DM id)).pre =st.pre;grind,fun K hK F a w G Q hI hR=>?_⟩;obtain⟨len,cap,w0,s_,hcells⟩:=hmk F a w G hR e1;obtain⟨nx,w',G1,q1,q2⟩:=(Rf hR e1).out;rw [s_]at q1;injection q1 with q1 q1';subst q1 q1';have hR1:R F st1.toSt (a.put (some d) (.slice (some ⟨w.heap.size,0,none⟩) len cap)) w0 G1:=by
     rcases q2 with ⟨v,e,q⟩ | ⟨e,_⟩
     ·injection e with e;subst e;rw [hd]at q;exact q.less e2
     ·cases e
    obtain⟨G2,hR2⟩:=w2 _ _ _ _ hR1;have hsl:Ab w0 G2 (st2.toSt.get d) ((a.put (some d) (.slice (some ⟨w.heap.size,0,none⟩) len cap)).tmps.getD d Go.undef):=hR2.w_ d;rw [st2.aaZ d,hg]at hsl;have hsz:d<a.tmps.size:=by have:=hR2.size;simp only [Act.put,Array.size_setIfInBounds]at this;rw [this];show d<(AE st2.m st2.tm).length;rw [Bw];exact hb2
    have hpv:(a.put (some d) (.slice (some ⟨w.heap.size,0,none⟩) len cap)).tmps.getD d Go.undef= .slice (some ⟨w.heap.size,0,none⟩) len cap:=by simp_all [Act.put]
    rw [hpv]at hsl;simp only [DV.toV,DC.toC,Ab,Ae]at hsl;obtain⟨aE3,hlr,e,he1,he2,he3⟩:=B9 hdr;have hE:e.toE=⟨id,some (E,T.sz E,l.length),l.flatMap (T.enc E),true⟩:=by simp_all [DE.toE,Bp,Yh]
    have hm:e.toE∈st2.toSt.so:=mem_map.2 ⟨e,he1,rfl⟩;have hL:st2.toSt.K_ id=some e.toE:=hR2.M_ hm (by rw [hE]) hb1;have abm:G2.o_ id=some w.heap.size:=by have hS:=hR2.store _ hm;grind [Ba]
    obtain⟨E1,n1',ajj,v1,abN,ahS,g1,g2,g3,g4,g5,g6,g7,g8,g9⟩:=hR2.adv hL abm;rw [hE]at g9;obtain⟨us,r1,r2⟩:=g9.list;obtain⟨G3,hR3,aah⟩:=hR2.alG hL (cs':=AC T E (List.length l:Nat) 0 l) (by grind [Kj]) (RL l 0) abm (fun k c hk=>by
     rw [hE];rcases Ym (by omega) hk with ⟨F1,m,cs,z1,z2⟩ | z
     ·right;obtain⟨v,y1,y2⟩:=fb r1 z2;have abq:=r2 k v y1;rw [zero_add]at abq;grind [Acg]
     grind)
    have ahh:B8 (st2.toSt.e_ (DM id) ((st2.toSt.so.map (Au.e_ (DM id))).map (Tp id e.toE.row (AC T E (List.length l:Nat) 0 l)))) ((st2.IN (DM id)).abe id (.deep E (List.length l:Nat) l none)).toSt :=by
     refine Lc ?_ ?_ ?_ (FQ n4.ok) ?_
     ·exact k1
     ·exact k2
     ·intro z hz;simp only [St.e_,mem_map];obtain⟨e3,h1,rfl⟩:=mem_map.1 hz;rcases abU n3.ok.nd h1 with ⟨h1,h2⟩ | h1
      ·obtain⟨d3,h3,h4,h5⟩:=dg n2.ok (mem_map.2 ⟨e3,h1,rfl⟩);have axS:d3.id ≠ id:=by grind [Au.u_,DE.toE_id]
       refine⟨d3.e_ (DM id),⟨d3,h3,rfl⟩,?_⟩;grind [El,Au.u_]
      ·subst h1;refine⟨e.toE.e_ (DM id),⟨e.toE,hm,rfl⟩,?_⟩;rw [Em (by rw [Au.u_,hE]),Au.u_,Au.afs,hE];rfl
     ·show (st2.IN (DM id)).pre =st2.pre;exact k4
    unfold Oper.wp;rw [s_];refine⟨_,G3,hK,?_⟩;rw [hd];exact hR3.less ahh
   ·exact Yl.no
  ·exact Yl.no
theorem Aci {H:Ax T} {P:Program} {I:World->Prop} {st:Af T} (hw:AI H st) {o:Oper}:Yl (dmk P o st) (fun a_=>(∃ H',Nx H st H' a_)/\a_.pre=st.pre/\ ∀ K:St->Prop,K a_.toSt->DL P I o st.toSt K):=by
 unfold dmk;split
 ·rename_i hop hd;exact pW hw hd (u7 hop hd)
 ·rename_i hop hd;split
  ·rename_i hp;exact Yl.Tf fun hc=>pW hw hd (sf hw hop hd hp hc)
  ·exact Yl.no
 ·exact Yl.no
end Go.PL
namespace Go.PL
open Go Go.RowKit
variable {T:Bm}
def Kt (c:DC T):(ks:List Kd)->DK T.den ks->Nat->Option (DK T.den ks)
 | .int k::_,y,0=>match Iq false (.int k) c with
   | some x=>some (x,y.2)
   | none=>none
 | .bool ::_,y,0=>match Iq false .bool c with
   | some x=>some (x,y.2)
   | none=>none
 | .str ::_,y,0=>match Iq false .str c with
   | some x=>some (x,y.2)
   | none=>none
 | _::ks,y,p+1=>match Kt c ks y.2 p with
   | some z=>some (y.1,z)
   | none=>none
 | _,_,_=>none
theorem Ox {c:DC T}: ∀ {ks:List Kd} {y z:DK T.den ks} {p:Nat},Kt c ks y p=some z->
 BX T ks z=(BX T ks y).set p c.toC/\BG T.enc ks z=(BG T.enc ks y).set p c.toC/\p<ks.length/\c.toC.pure=true/\lZ c.toC=true
 | [],_,_,_,h=>by simp [Kt]at h
 | .t_ F'::ks,y,z,0,h=>by simp [Kt]at h
 | .int k::ks,y,z,0,h=>by
   simp only [Kt]at h;split at h
   ·rename_i x hx;injection h with h;subst h;have:=(CK hx).2 rfl;rw [this];exact⟨rfl,rfl,by simp,rfl,rfl⟩
   ·cases h
 | .bool ::ks,y,z,0,h=>by
   simp only [Kt]at h;split at h
   ·rename_i x hx;injection h with h;subst h;have:=(CK hx).2 rfl;rw [this];exact⟨rfl,rfl,by simp,rfl,rfl⟩
   ·cases h
 | .str ::ks,y,z,0,h=>by
   simp only [Kt]at h;split at h
   ·rename_i x hx;injection h with h;subst h;have:=(CK hx).2 rfl;rw [this];exact⟨rfl,rfl,by simp,rfl,rfl⟩
   ·cases h
 | k::ks,y,z,p+1,h=>by
   have h:(match Kt c ks y.2 p with | some z=>some ((y.1,z):Pa T.den k×DK T.den ks) | none=>none)=some z:=by cases k<;>simpa only [Kt] using h
   split at h
   ·rename_i z' hz;injection h with h;subst h;obtain⟨a,b,d,e,f⟩:=Ox hz;exact⟨by simp only [BX,List.set_cons_succ];rw [a],by simp only [BG,List.set_cons_succ];rw [b],by simp;omega,e,f⟩
   ·cases h
theorem Vk {E:Nat} {n:Int} {c:C} {p:Nat} {x':T.den E}: ∀ {l:List (T.den E)} {k:Int} {i:Nat} {x:T.den E},l[i]? =some x->T.aaV E x'=(T.aaV E x).set p c->T.enc E x'=(T.enc E x).set p c->p<T.sz E->(AC T E n k l).set (i*T.sz E+p) c=AC T E n k (l.set i x')
 | [],_,_,_,h,_,_,_=>by simp at h
 | y::l,k,0,x,h,hx,hx2,hp=>by
   simp only [List.getElem?_cons_zero,injEq]at h;subst h;rw [List.set_cons_zero,AC,AC,Nat.zero_mul,zero_add];by_cases hk:k<n
   all_goals simp_all [Ey,if_neg,AS]
 | y::l,k,i+1,x,h,hx,hx2,hp=>by
   have hl:(if k<n then T.aaV E y else T.enc E y).length =T.sz E:=by grind [Ey,AS]
   rw [List.set_cons_succ,AC,AC,List.set_append_right _ _ (by rw [hl,add_mul,Nat.one_mul];omega),hl,show (i+1)*T.sz E+p - T.sz E=i*T.sz E+p by rw [add_mul,Nat.one_mul];omega];rw [Vk (by simpa using h) hx hx2 hp]
def Dp (P:Program) (o:Oper) (st:Af T):M (Af T):=match o.op with
 | .store t x y=>match o.dst,st.arg [] x,st.arg [] y,KS P t with
   | none,some (.c (.rp id N i off)),some (.c c),some (false,1)=>match Ki st id with
     | some ⟨E,(nn,l,none)⟩=>Tf (Ep id&&Nat.beq N (T.sz E)) (.opt (idx l i) fun x=>
      match Kt c (T.ks E) (T.un E x) off with
      | some z=> .ret (st.abe id (.deep E nn (l.set i.toNat (T.bd E z)) none))
      | none=> .no)
     | _=> .no
   | _,_,_,_=> .no
 | _=> .no
theorem Acj {H:Ax T} {P:Program} {I:World->Prop} {st:Af T} (hw:AI H st) {o:Oper}:Yl (Dp P o st) (fun a_=>(∃ H',Nx H st H' a_)/\a_.pre=st.pre/\ ∀ K:St->Prop,K a_.toSt->DL P I o st.toSt K):=by
 unfold Dp;split
 ·rename_i t x y hop;split
  ·rename_i id N i off c hd hx hy ht;split
   ·rename_i E nn l hdr;refine Yl.Tf fun hg=>Yl.opt fun xx hxx=>?_;simp only [and_eq_true,beq_eq]at hg;obtain⟨g1,g2⟩:=hg;subst g2;split
    ·rename_i z hz;obtain⟨i0,i1,hxi⟩:=Jo hxx;obtain⟨a1,a2,a3⟩:=HC hw hx;obtain⟨b1,b2,b3⟩:=HC hw hy;obtain⟨hmk,hlr,e,he1,he2,he3⟩:=B9 hdr;obtain⟨z1,z2,ace,z3,z4⟩:=Ox hz;have hE:e.toE=⟨id,some (E,T.sz E,l.length),AC T E nn 0 l,true⟩:=by unfold DE.toE;rw [he3,he2];rfl
     have ajx:T.aaV E (T.bd E z)=(T.aaV E xx).set off c.toC:=by rw [Bm.aaV,T.aet,z1];rfl
     have ax0:T.enc E (T.bd E z)=(T.enc E xx).set off c.toC:=by rw [<-T.aaT,T.aet,z2,T.aaT]
     have aey:=Vk (n:=nn) (k:=0) (x':=T.bd E z) (c:=c.toC) (p:=off) hxi ajx ax0 ace;obtain⟨H2,n2⟩:=Af.aa8 hw id (x:= .deep E nn (l.set i.toNat (T.bd E z)) none) trivial;refine Yl.ret ⟨⟨H2,n2⟩,rfl,fun K hK Fr a w G Q hI hR=>?_⟩;have hm:e.toE∈st.toSt.so:=mem_map.2 ⟨e,he1,rfl⟩;have hL:st.toSt.K_ id=some e.toE:=hR.M_ hm (by rw [hE]) g1;have U_:=hR.arg rfl a2;rw [a3]at U_;simp only [DV.toV,DC.toC,Ab,Ae]at U_;obtain⟨b,hb1,hv⟩:=U_;have hyv:=hR.arg rfl b2;rw [b3]at hyv;simp only [DV.toV,Ab]at hyv;have acy:=hyv.one;have hcl:(a.eval y).cells.toList =[a.eval y]:=by cases hq:a.eval y<;>rw [hq]at acy<;>first | rfl | cases acy
     have hc:Ai w G [c.toC] (a.eval y).cells.toList :=by rw [hcl];exact⟨hyv,trivial⟩
     have hlen:e.toE.cs.length=l.length*T.sz E:=by grind [Kj]
     have atx:off<T.sz E:=ace;have hk:i.toNat*T.sz E+off<e.toE.cs.length:=by rw [hlen];have:(i.toNat+1)*T.sz E<=l.length*T.sz E:=Nat.mul_le_mul_right _ (by omega);grind
     obtain⟨cur,T',c1,c2,c3⟩:=hR.acP hL hb1 (off:=i.toNat*T.sz E+off) hc (by simp;omega) (by simp [Am,z3]) (by simp [z4]);have hs:=Ev (P:=P) ht c1 (by grind) c2 (Ai.one hc);generalize w.setRow b _=w1 at hs c3;have s_:(execOp a.eval o).run P w= .ok .skip w1:=by simp_all [execOp]
     refine FZ s_ ?_;rw [hd];refine⟨_,G,hK,c3.less ?_⟩;refine Lc (JG.refl _) (JG.refl _) ?_ (FQ n2.ok) rfl;intro u hu;obtain⟨e3,h1,rfl⟩:=mem_map.1 hu;rcases abU hw.nd h1 with ⟨h1,h2⟩ | h1
     ·exact mem_map.2 ⟨e3.toE,mem_map.2 ⟨e3,h1,rfl⟩,(by grind [El,DE.toE_id])⟩
     ·subst h1;refine mem_map.2 ⟨e.toE,hm,?_⟩;rw [Em (by rw [hE])];show _=(⟨id,some (E,T.sz E,(l.set i.toNat (T.bd E z)).length),AC T E nn 0 (l.set i.toNat (T.bd E z)),true⟩:Au);simp only [hE,List.length_set];simp_all [List.set_eq_take_append_cons_drop]
    ·exact Yl.no
   ·exact Yl.no
  ·exact Yl.no
 ·exact Yl.no
def dug (ks:List Nat) (st:Af T):Af T:=match st.gh with
 | []=>st
 | (m,tm)::r=>{st with gh:=(m,HF ks tm)::r}
theorem Ack {H:Ax T} {st:Af T} (hw:AI H st) (ks:List Nat):(∃ H',Nx H st H' (dug ks st))/\(dug ks st).pre =st.pre/\Wk st.toSt (dug ks st).toSt :=by
 unfold dug;split
 ·exact⟨⟨H,Nx.refl hw⟩,rfl,Wk.less (B8.refl _)⟩
 ·rename_i m tm r hg;have hn:Nx H st H {st with gh:=(m,HF ks tm)::r}:=⟨Da.refl _ _,le_refl _,hw.tm,fun f hf=>by
   rcases mem_cons.1 hf with rfl | hf
   ·exact fun s t v hm=>hw.gh (m,tm) (by grind) s t v (MX hm)
   ·exact hw.gh f (by grind),hw.so,hw.nd⟩
  refine⟨⟨H,hn⟩,rfl,Wk.less (Lc (JG.refl _) ?_ (fun _ h=>h) (FQ hn.ok) rfl)⟩;show JG (st.gh.flatMap fun f=>AE f.1 f.2) (((m,HF ks tm)::r).flatMap fun f=>AE f.1 f.2);rw [hg,flatMap_cons,flatMap_cons];refine JG.append ?_ (JG.refl _);unfold AE;refine JG.map fun i _=>?_;rw [Pd];split
  ·grind
  ·exact .inl rfl
end Go.PL
set_option linter.all false
namespace Go.PL
open Go Go.RowKit
variable {T:Bm}
def Wx {P:Program} {I:World->Prop} (f:FuncId):List (CE T P I)->Option TypeId
 | []=>none
 | e::r=>match Nat.beq e.f f,e.ins with
   | true,some E=>some E
   | _,_=>Wx f r
theorem RM {P:Program} {I:World->Prop} {f:FuncId} {E:TypeId}: ∀ {l:List (CE T P I)},Wx f l=some E->U8 P f E
 | [],h=>by cases h
 | e::r,h=>by
   unfold Wx at h;split at h
   ·rename_i E' hb hE;injection h with h;subst h;rw [<-Nat.eq_of_beq_eq_true hb];exact e.apn _ hE
   ·exact RM h
def AeD {P:Program} {I:World->Prop} {E:TypeId} (f:FuncId) (h:U8 P f E):CE T P I where
 f:=f
 ps:=[]
 rs:=[]
 run:=fun _=>none
 ok:=(by grind)
 ins:=some E
 apn:=(by grind)
def vd (st:Af T) (r:Ah) (E:Nat) (l m:List (T.den E)) (i:Int) (d:Nat):M (Af T):=
 .opt (n_ (0<=i/\i<=(l.length:Nat)/\0<m.length/\(l.length+m.length)*8<=140737488355328)) fun _=>
  match st.new r (.row E (l.take i.toNat++(m++l.drop i.toNat)))with
  | some s=> .ret (s.put (some d) (.c (.c (.j_ r))))
  | none=> .no
theorem ve {H:Ax T} {P:Program} {I:World->Prop} {st:Af T} (hw:AI H st) {o:Oper} {f:FuncId} {x y z:Operand} {d:Nat} {r rv:Ah} {E:Nat} {l m:List (T.den E)} {i:Int} (hk:BH o.op= .call f [x,y,z]) (hd:o.dst=some d) (g1:PL.ent P f=true) (hp:U8 P f E) (g4:T.sz E=1) (Tg:r ≠ rv)
 (hx:st.arg [] x=some (.c (.c (.j_ r)))) (hy:st.arg [] y=some (.c (.k (.int .i64) i))) (hz:st.arg [] z=some (.c (.c (.j_ rv)))) (hr:DN st r=some ⟨E,l⟩) (hrv:DN st rv=some ⟨E,m⟩):
 Yl (vd st r E l m i d) (fun a_=>(∃ H',Nx H st H' a_)/\a_.pre=st.pre/\ ∀ K:St->Prop,K a_.toSt->DL P I o st.toSt K):=by
 unfold vd;refine Yl.opt fun u hn=>?_;have hn:=CJ hn;split
 ·rename_i s hs;obtain⟨⟨H1,n1⟩,l1,p1⟩:=Af.aca hw (show (DX.row E _:DX T).ok from trivial) hs;obtain⟨H2,n2⟩:=Af.H_ n1 (some d) (v:= .c (.c (.j_ r))) (by simp only [DV.ok,DC.ok]);refine Yl.ret ⟨⟨H2,n2⟩,by rw [AU];exact p1,fun K hK=>?_⟩;obtain⟨_,a2,a3⟩:=HC hw hx;obtain⟨_,b2,b3⟩:=HC hw hy;obtain⟨_,c2,c3⟩:=HC hw hz;obtain⟨h1,_,_⟩:=BQ hr;obtain⟨h2,_,_⟩:=BQ hrv;rw [g4]at h1 h2;have hlen: ∀ l:List (T.den E),(l.flatMap (T.enc E)).length =l.length:=fun l=>by rw [Yg (fun y=>AS E y),g4,mul_one]
  have ht: ∀ (l:List (T.den E)) (j:Nat),(l.flatMap (T.enc E)).take j=(l.take j).flatMap (T.enc E):=fun l j=>by have:=Hx (fun y=>AS E y) l j;grind
  have hdp: ∀ (l:List (T.den E)) (j:Nat),(l.flatMap (T.enc E)).drop j=(l.drop j).flatMap (T.enc E):=fun l j=>by have:=JD (fun y=>AS E y) l j;grind
  have hE:(⟨r,0, .row E (l.take i.toNat++(m++l.drop i.toNat))⟩:DE T).toE =⟨r,some (E,1,l.length+m.length),(l.flatMap (T.enc E)).take i.toNat++m.flatMap (T.enc E)++(l.flatMap (T.enc E)).drop i.toNat,true⟩:=by show (⟨r,some (E,T.sz E,(l.take i.toNat++(m++l.drop i.toNat)).length),(l.take i.toNat++(m++l.drop i.toNat)).flatMap (T.enc E),true⟩:Au)=_;grind
  refine DL.ins (K:=K) hk g1 hp (fun Fr a w G hR=>?_) (fun Fr a w G hR=>?_) (fun Fr a w G hR=>?_) h1 h2 Tg ⟨hn.1,hn.2.1⟩ hn.2.2.1 hn.2.2.2 (by rw [<-hE];exact l1) (by grind [Af.k_,DV.toV,DC.toC])
  ·have:=hR.arg rfl a2;grind [DV.toV,DC.toC]
  ·have:=hR.arg rfl b2;grind [DV.toV,DC.toC,Bk]
  ·have:=hR.arg rfl c2;simp_all [DV.toV,DC.toC]
 ·exact Yl.no
def Acl {P:Program} {I:World->Prop} (Γ:List (CE T P I)) (o:Oper) (st:Af T):M (Af T):=match BH o.op,o.dst with
 | .call f [x,y,z],some d=>match st.arg [] x,st.arg [] y,st.arg [] z,Wx f Γ with
   | some (.c (.c (.j_ r))),some (.c (.k (.int .i64) i)),some (.c (.c (.j_ rv))),some E0=>match DN st r,DN st rv with
     | some ⟨E,l⟩,some ⟨E',m'⟩=>match Ya E E' m' with
       | some m=>Tf ((PL.ent P f&& !Bc r rv)&&(Nat.beq E0 E&&Nat.beq (T.sz E) 1)) (vd st r E l m i d)
       | none=> .no
     | _,_=> .no
   | _,_,_,_=> .no
 | _,_=> .no
theorem yL {H:Ax T} {P:Program} {I:World->Prop} {Γ:List (CE T P I)} {st:Af T} (hw:AI H st) {o:Oper}:Yl (Acl Γ o st) (fun a_=>(∃ H',Nx H st H' a_)/\a_.pre=st.pre/\ ∀ K:St->Prop,K a_.toSt->DL P I o st.toSt K):=by
 unfold Acl;split
 ·rename_i f x y z d hk hd;split
  ·rename_i r i rv E0 hx hy hz hp;split
   ·rename_i E l E' m' hr hrv;split
    ·rename_i m hm;refine Yl.Tf fun hg=>?_;simp only [and_eq_true,beq_eq,not_eq_true']at hg;obtain⟨⟨g1,g2⟩,g3,g4⟩:=hg;subst g3;obtain⟨e,hme⟩:=Ks hm;subst e;subst hme;exact ve hw hk hd g1 (RM hp) g4 (fun q=>by rw [AP.2 q]at g2;cases g2) hx hy hz hr hrv
    ·exact Yl.no
   ·exact Yl.no
  ·exact Yl.no
 ·exact Yl.no
end Go.PL
set_option linter.all false
namespace Go.PL
open Go Go.RowKit
variable {T:Bm}
def Acm (P:Program) (o:Oper) (st:Af T):M (Af T):=match o.op with
 | .load t x=>match o.dst,st.arg [] x,KS P t with
   | some d,some (.c (.rp id N i off)),some (false,1)=>match Ki st id with
     | some ⟨E,(nn,l,none)⟩=>Tf (Ep id&&Nat.beq N (T.sz E)) (.opt (idx l i) fun x=> .opt (n_ (i<nn)) fun _=>match GR (T.ks E) (T.un E x) off with
       | some ⟨_,_⟩=> .ret (st.put (some d) (.c (.c (.j_ (1000007::(i.toNat*T.sz E+off)::id)))))
       | none=> .no)
     | _=> .no
   | _,_,_=> .no
 | _=> .no
def Acn (P:Program) (o:Oper) (st:Af T):M (Af T):=match o.op with
 | .indexAddr t x y=>match o.dst,st.arg [] x,st.arg [] y,Dt P t with
   | some d,some (.c (.c (.j_ (m::k::id)))),some (.c (.k (.int _) j)),some (_,n')=>match Ki st id with
     | some ⟨E,(nn,l,none)⟩=>Tf (Ep id&&(Nat.beq m 1000007&&Nat.beq (T.sz E) 1)) (.opt (idx l (k:Int)) fun x=> .opt (n_ ((k:Int)<nn)) fun _=>match GR (T.ks E) (T.un E x) 0 with
       | some ⟨F,y⟩=>Tf (Nat.beq n' (T.sz F)) (.opt (idx y j) fun _=> .ret (st.put (some d) (.c (.c (.ptr (m::k::id) (j.toNat*n'))))))
       | none=> .no)
     | _=> .no
   | _,_,_,_=> .no
 | _=> .no
def Aco (P:Program) (o:Oper) (st:Af T):M (Af T):=match o.op with
 | .store t x y=>match o.dst,st.arg [] x,st.arg [] y,KS P t with
   | none,some (.c (.c (.ptr (m::k::id) off))),some (.c c),some (false,1)=>match Ki st id with
     | some ⟨E,(nn,l,none)⟩=>Tf (Ep id&&(Nat.beq m 1000007&&Nat.beq (T.sz E) 1)) (.opt (idx l (k:Int)) fun x=> .opt (n_ ((k:Int)<nn)) fun _=>match GR (T.ks E) (T.un E x) 0 with
       | some ⟨F,y⟩=>Tf (Nat.beq (T.sz F) 1) (.opt (idx y (off:Int)) fun v=>match Kt c (T.ks F) (T.un F v) 0 with
         | some z=>match GT F (y.set off (T.bd F z)) (T.ks E) (T.un E x) 0 with
           | some x'=> .ret (st.abe id (.deep E nn (l.set k (T.bd E x')) none))
           | none=> .no
         | none=> .no)
       | none=> .no)
     | _=> .no
   | _,_,_,_=> .no
 | _=> .no
section
variable {H:Ax T} {P:Program} {I:World->Prop} {st:Af T}
theorem TT {E:Nat} {nn:Int} {l:List (T.den E)} {k off:Nat} {x:T.den E} (hx:l[k]? =some x) (hn:(k:Int)<nn) {F:Nat} {y:List (T.den F)} (hy:GR (T.ks E) (T.un E x) off=some ⟨F,y⟩):
 (AC T E nn 0 l)[k*T.sz E+off]? =some (.isl F (T.sz F) y.length (y.flatMap (T.enc F))):=by
 obtain⟨hc,ace⟩:=Ow hy;rw [Kk hx ace,if_pos (by omega)];exact hc
theorem yM (hw:AI H st) {o:Oper}:Yl (Acm P o st) (fun a_=>(∃ H',Nx H st H' a_)/\a_.pre=st.pre/\ ∀ K:St->Prop,K a_.toSt->DL P I o st.toSt K):=by
 unfold Acm;split
 ·rename_i t x hop;split
  ·rename_i d id N i off hd hx ht;split
   ·rename_i E nn l hdr;refine Yl.Tf fun hg=>Yl.opt fun xx hxx=>Yl.opt fun u hu=>?_;simp only [and_eq_true,beq_eq]at hg;obtain⟨g1,g2⟩:=hg;subst g2;split
    ·rename_i F y hy;have hin:=CJ hu;obtain⟨i0,i1,hxi⟩:=Jo hxx;obtain⟨a1,a2,a3⟩:=HC hw hx;obtain⟨hmk,hlr,e,he1,he2,he3⟩:=B9 hdr;have hE:e.toE=⟨id,some (E,T.sz E,l.length),AC T E nn 0 l,true⟩:=by unfold DE.toE;rw [he3,he2];rfl
     obtain⟨H4,n4⟩:=Af.aai hw (some d) (v:= .c (.c (.j_ (1000007::(i.toNat*T.sz E+off)::id)))) (by simp only [DV.ok,DC.ok]);refine Yl.ret ⟨⟨H4,n4⟩,AU _ _ _,fun K hK Fr a w G Q hI hR=>?_⟩;have hL:st.toSt.K_ id=some e.toE:=hR.M_ (mem_map.2 ⟨e,he1,rfl⟩) (by rw [hE]) g1;have hk:e.toE.cs[i.toNat*T.sz E+off]? =some (.isl F (T.sz F) y.length (y.flatMap (T.enc F))):=by grind [TT]
     have U_:=hR.arg rfl a2;rw [a3]at U_;simp only [DV.toV,DC.toC,Ab,Ae]at U_;obtain⟨b,hb1,hv⟩:=U_;obtain⟨_,hRE,b2,v,k3,k4,k5⟩:=hR.inner hL hk;rw [hb1]at k3;injection k3 with k3;subst k3;obtain⟨dd,ti,hu',hd',_⟩:=Dc ht;have acy:v.oneCell'=true:=by unfold Ba at hRE;obtain⟨_,v2,c2,c3⟩:=hRE;rw [show (⟨BR (i.toNat*T.sz E+off) id,some (F,T.sz F,y.length),y.flatMap (T.enc F),true⟩:Au).id =BR (i.toNat*T.sz E+off) id from rfl,k5]at c2;injection c2 with c2;subst c2;rcases c3 with ⟨p,rfl,_⟩ | ⟨b',cap,cur,rfl,_⟩<;>rfl
     have s_:(execOp a.eval o).run P w= .ok (.value v) w:=by simp_all [execOp,D6]
     refine AK s_ ⟨_,G,hK,?_⟩;rw [Af.k_,hd];exact hR.put (by simp only [DV.toV,DC.toC,Ab,Ae];exact⟨k5,acy⟩)
    ·exact Yl.no
   ·exact Yl.no
  ·exact Yl.no
 ·exact Yl.no
theorem yN (hw:AI H st) {o:Oper}:Yl (Acn P o st) (fun a_=>(∃ H',Nx H st H' a_)/\a_.pre=st.pre/\ ∀ K:St->Prop,K a_.toSt->DL P I o st.toSt K):=by
 unfold Acn;split
 ·rename_i t x y hop;split
  ·rename_i d m k id ki j E' n' hd hx hy ht;split
   ·rename_i E nn l hdr;refine Yl.Tf fun hg=>Yl.opt fun xx hxx=>Yl.opt fun u hu=>?_;simp only [and_eq_true,beq_eq]at hg;obtain⟨g1,g2,g3⟩:=hg;subst g2;split
    ·rename_i F r hr;refine Yl.Tf fun hg'=>Yl.opt fun z hz=>?_;have g4:n'=T.sz F:=by simp_all
     subst g4;have hin:=CJ hu;obtain⟨i0,i1,hxi⟩:=Jo hxx;obtain⟨j0,j1,_⟩:=Jo hz;obtain⟨a1,a2,a3⟩:=HC hw hx;obtain⟨b1,b2,b3⟩:=HC hw hy;obtain⟨hmk,hlr,e,he1,he2,he3⟩:=B9 hdr;have hE:e.toE=⟨id,some (E,T.sz E,l.length),AC T E nn 0 l,true⟩:=by unfold DE.toE;rw [he3,he2];rfl
     obtain⟨H4,n4⟩:=Af.aai hw (some d) (v:= .c (.c (.ptr (1000007::k::id) (j.toNat*T.sz F)))) (by simp only [DV.ok,DC.ok]);refine Yl.ret ⟨⟨H4,n4⟩,AU _ _ _,fun K hK Fr a w G Q hI hR=>?_⟩;have hL:st.toSt.K_ id=some e.toE:=hR.M_ (mem_map.2 ⟨e,he1,rfl⟩) (by rw [hE]) g1;have hk:e.toE.cs[k]? =some (.isl F (T.sz F) r.length (r.flatMap (T.enc F))):=by rw [hE];have:=TT (nn:=nn) (k:=k) (off:=0) (by simpa using hxi) hin hr;grind
     have U_:=hR.arg rfl a2;have hyv:=hR.arg rfl b2;rw [a3]at U_;rw [b3]at hyv;simp only [DV.toV,DC.toC,Bk,Ab,Ae]at U_ hyv;obtain⟨_,hRE,_⟩:=hR.inner hL hk;unfold Ba at hRE;obtain⟨_,v2,c2,c3⟩:=hRE;rw [show (⟨BR k id,some (F,T.sz F,r.length),r.flatMap (T.enc F),true⟩:Au).id =BR k id from rfl,show BR k id=1000007::k::id from rfl,U_.1]at c2;injection c2 with c2;rcases c3 with ⟨p,_,c4,_⟩ | ⟨b',cap,cur,c3,e2,_⟩
     ·omega
     ·have s_:(execOp a.eval o).run P w= .ok (.value (.pointer (some ⟨b',0+j.toNat*T.sz F,none⟩))) w:=by simp [execOp,hop,hyv,c2,c3,Er ht b' 0 r.length cap ki j j0 j1 w]
      refine AK s_ ⟨_,G,hK,?_⟩;rw [Af.k_,hd];exact hR.put (by simp only [DV.toV,DC.toC,Ab,Ae];exact⟨b',e2,by grind⟩)
    ·exact Yl.no
   ·exact Yl.no
  ·exact Yl.no
 ·exact Yl.no
theorem jZ {F:Nat} {c:C} {v':T.den F} (hs:T.sz F=1) (hv:T.enc F v'=[c]): ∀ {y:List (T.den F)} {off:Nat},off<y.length->(y.set off v').flatMap (T.enc F)=(y.flatMap (T.enc F)).take off++[c]++(y.flatMap (T.enc F)).drop (off+1)
 | [],_,h=>by simp at h
 | a::y,0,_=>by grind [AS]
 | a::y,off+1,h=>by
   have ha:(T.enc F a).length =1:=by rw [AS,hs]
   obtain⟨q,hq⟩: ∃ q,T.enc F a=[q]:=List.length_eq_one_iff.1 ha;have:=jZ hs hv (y:=y) (off:=off) (by simpa using h);simp [hq,this]
theorem yO (hw:AI H st) {o:Oper}:Yl (Aco P o st) (fun a_=>(∃ H',Nx H st H' a_)/\a_.pre=st.pre/\ ∀ K:St->Prop,K a_.toSt->DL P I o st.toSt K):=by
 unfold Aco;split
 ·rename_i t x y hop;split
  ·rename_i m k id off c hd hx hy ht;split
   ·rename_i E nn l hdr;refine Yl.Tf fun hg=>Yl.opt fun xx hxx=>Yl.opt fun u hu=>?_;simp only [and_eq_true,beq_eq]at hg;obtain⟨g1,g2,g3⟩:=hg;subst g2;split
    ·rename_i F r hr;refine Yl.Tf fun hg'=>Yl.opt fun v hv0=>?_;have g4:T.sz F=1:=by simp_all
     split
     ·rename_i z hz;split
      ·rename_i x' hx';have hin:=CJ hu;obtain⟨i0,i1,hxi⟩:=Jo hxx;obtain⟨j0,j1,hvi⟩:=Jo hv0;simp only [Int.toNat_natCast]at hxi hvi;have hkl:k<l.length:=by omega
       have hol:off<r.length:=by omega
       obtain⟨a1,a2,a3⟩:=HC hw hx;obtain⟨b1,b2,b3⟩:=HC hw hy;obtain⟨hmk,hlr,e,he1,he2,he3⟩:=B9 hdr;obtain⟨z1,z2,_,z3,z4⟩:=Ox hz;obtain⟨w1,w2⟩:=M1 hx';have hE:e.toE=⟨id,some (E,T.sz E,l.length),AC T E nn 0 l,true⟩:=by unfold DE.toE;rw [he3,he2];rfl
       have hk:e.toE.cs[k]? =some (.isl F (T.sz F) r.length (r.flatMap (T.enc F))):=by rw [hE];have:=TT (nn:=nn) (k:=k) (off:=0) hxi hin hr;grind
       have hv':T.enc F (T.bd F z)=[c.toC]:=by
        have hl1:(BG T.enc (T.ks F) (T.un F v)).length =1:=by have:=AS F v;rw [<-T.aaT,g4]at this;exact this
        obtain⟨q,hq⟩:=List.length_eq_one_iff.1 hl1;rw [<-T.aaT,T.aet,z2,hq];rfl
       have hfl:=jZ g4 hv' hol;have ajx:T.aaV E (T.bd E x')=(T.aaV E xx).set 0 (.isl F (T.sz F) r.length ((r.flatMap (T.enc F)).take off++[c.toC]++(r.flatMap (T.enc F)).drop (off+[c.toC].length))):=by rw [Bm.aaV,T.aet,w1];rw [List.length_set,hfl];rfl
       have aey:=QD (n:=nn) (k:=0) (x':=T.bd E x') (p:=0) hxi (by omega) ajx (by omega);obtain⟨H2,n2⟩:=Af.aa8 hw id (x:= .deep E nn (l.set k (T.bd E x')) none) trivial;refine Yl.ret ⟨⟨H2,n2⟩,rfl,fun K hK Fr a w G Q hI hR=>?_⟩;have hm:e.toE∈st.toSt.so:=mem_map.2 ⟨e,he1,rfl⟩;have hL:st.toSt.K_ id=some e.toE:=hR.M_ hm (by rw [hE]) g1;have U_:=hR.arg rfl a2;rw [a3]at U_;simp only [DV.toV,DC.toC,Ab,Ae]at U_;obtain⟨b,hb1,hv⟩:=U_;have hyv:=hR.arg rfl b2;rw [b3]at hyv;simp only [DV.toV,Ab]at hyv;have acy:=hyv.one;have hcl:(a.eval y).cells.toList =[a.eval y]:=by cases hq:a.eval y<;>rw [hq]at acy<;>first | rfl | cases acy
       have hc:Ai w G [c.toC] (a.eval y).cells.toList :=by rw [hcl];exact⟨hyv,trivial⟩
       have aFp:(r.flatMap (T.enc F)).length =r.length:=by rw [BO (fun y=>AS F y),g4,mul_one]
       obtain⟨cur,T',c1,c2,c3⟩:=hR.agd hL hk (b:=b) hb1 (off:=off) hc (by grind) (by simp [Am,z3]);have hs:=Ev (P:=P) ht c1 (by grind) c2 (Ai.one hc);generalize w.setRow b _=w1 at hs c3;have s_:(execOp a.eval o).run P w= .ok .skip w1:=by simp_all [execOp]
       refine FZ s_ ?_;rw [hd];refine⟨_,G,hK,c3.less ?_⟩;refine Lc (JG.refl _) (JG.refl _) ?_ (FQ n2.ok) rfl;intro u hu;obtain⟨e3,h1,rfl⟩:=mem_map.1 hu;rcases abU hw.nd h1 with ⟨h1,h2⟩ | h1
       ·exact mem_map.2 ⟨e3.toE,mem_map.2 ⟨e3,h1,rfl⟩,(by grind [El,DE.toE_id])⟩
       ·subst h1;refine mem_map.2 ⟨e.toE,hm,?_⟩;rw [Em (by rw [hE])];show _=(⟨id,some (E,T.sz E,(l.set k (T.bd E x')).length),AC T E nn 0 (l.set k (T.bd E x')),true⟩:Au);grind
      ·exact Yl.no
     ·exact Yl.no
    ·exact Yl.no
   ·exact Yl.no
  ·exact Yl.no
 ·exact Yl.no
end
end Go.PL
set_option linter.all false
namespace Go.PL
open Go Go.RowKit
variable {T:Bm}
def mkF {den:Nat->Type}:(ks:List Kd)->Option (Int->DK den ks)
 | [.int .u8]=>some fun n=>(n,())
 | _=>none
theorem vf {den:Nat->Type} {enc: ∀ E,den E->List C}: ∀ {ks:List Kd} {f:Int->DK den ks},mkF ks=some f-> ∀ n,BG enc ks (f n)=[.int .u8 n]
 | [.int .u8],f,h,n=>by injection h with h;subst h;rfl
def dby (P:Program) (o:Oper) (st:Af T):M (Af T):=match o.op with
 | .convert src dst x=>match st.ev x,py P dst,FC P src with
   | .c (.k .str s),some E,true=>match mkF (den:=T.den) (T.ks E)with
     | some f=> .opt (n_ (s.length<=140737488355328)) fun _=> .ret (st.put o.dst (.c (.k (.t_ E) (s.map fun b=>T.bd E (f (b.toNat:Int))))))
     | none=> .no
   | _,_,_=> .no
 | _=> .no
theorem Acp {H:Ax T} {P:Program} {I:World->Prop} {st:Af T} (hw:AI H st) {o:Oper}:Yl (dby P o st) (fun a_=>(∃ H',Nx H st H' a_)/\a_.pre=st.pre/\ ∀ K:St->Prop,K a_.toSt->DL P I o st.toSt K):=by
 unfold dby
 split
 ·rename_i src dst x hop;split
  ·rename_i s E hev hb hs;split
   ·rename_i f hf;refine Yl.opt fun u hu=>?_;obtain⟨H4,n4⟩:=Af.aai hw o.dst (v:= .c (.k (.t_ E) (s.map fun b=>T.bd E (f (b.toNat:Int))))) (by simp only [DV.ok,DC.ok]);refine Yl.ret ⟨⟨H4,n4⟩,AU _ _ _,fun K hK=>?_⟩;have agu:=st.abD x;rw [hev]at agu;have he: ∀ n,T.enc E (T.bd E (f n))=[.int .u8 n]:=fun n=>by rw [<-T.aaT,T.aet];exact vf hf n
    have hv:(DV.c (.k (.t_ E) (s.map fun b=>T.bd E (f (b.toNat:Int)))):DV T).toV =vL (eI .u8) (Eg s):=by
     have hfl: ∀ s:List UInt8,(s.map fun b=>T.bd E (f (b.toNat:Int))).flatMap (T.enc E)=(Eg s).flatMap (eI .u8):=fun s=>by
      induction s with
      | nil=>rfl
      | cons b s ih=>
        simp only [Eg,map_cons,flatMap_cons]at ih ⊢;rw [ih,he];rfl
     have hln: ∀ s:List UInt8,(s.map fun b=>T.bd E (f (b.toNat:Int))).length =(Eg s).length :=fun s=>by simp [Eg]
     exact congr (congrArg (fun n l=>V.c (C.sl n l)) (hln s)) (hfl s)
    rw [Af.k_,hv]at hK;exact DL.bytes E s hop (CJ hu) hK (by rw [agu];rfl) hs hb
   ·exact Yl.no
  ·exact Yl.no
 ·exact Yl.no
end Go.PL
set_option linter.all false
namespace Go.PL
open Go Go.RowKit
variable {T:Bm}
def Aa0 {P:Program} {I:World->Prop} (g:Nat) (t:List (List UInt8)) (h:Oa I g t):CE T P I where
 f:=0
 ps:=[]
 rs:=[]
 run:=fun _=>none
 ok:=(by grind)
 tab:=some (g,t)
 ao5:=(by grind)
def RN {P:Program} {I:World->Prop} (g:Nat):List (CE T P I)->Option (List (List UInt8))
 | []=>none
 | e::r=>match e.tab with
   | some (g',t)=>match Nat.beq g' g with
     | true=>some t
     | false=>RN g r
   | none=>RN g r
theorem QG {P:Program} {I:World->Prop} {g:Nat} {t:List (List UInt8)}: ∀ {l:List (CE T P I)},RN g l=some t->Oa I g t
 | [],h=>nomatch h
 | e::r,h=>by
   unfold RN at h;split at h
   ·rename_i g' t' he;split at h
    ·rename_i hb;injection h with h;subst h;have:=Nat.eq_of_beq_eq_true hb;subst this;exact e.ao5 _ _ he
    ·exact QG h
   ·exact QG h
def Aa1 (i:Int) (n:Nat):Option Unit:=n_ (0<=i/\i<((n:Nat):Int))
theorem yP {i:Int} {n:Nat} {u:Unit} (h:Aa1 i n=some u):0<=i/\i<((n:Nat):Int):=CJ h
def dga (P:Program) (o:Oper) (st:Af T):M (Af T):=match o.op with
 | .indexAddr t (.global g) x=>match st.ev x,GK P t with
   | .c (.k (.int _) i),some (n,_,1)=> .opt (Aa1 i n) fun _=> .ret (st.put o.dst (.c (.c (.afy g (Int.toNat i)))))
   | _,_=> .no
 | _=> .no
def dgl {P:Program} {I:World->Prop} (Γ:List (CE T P I)) (o:Oper) (st:Af T):M (Af T):=match o.op with
 | .load t x=>match st.ev x,KS P t with
   | .c (.c (.afy g off)),some (false,1)=>match RN g Γ with
     | some tab=> .opt (n_ (off<tab.length)) fun _=> .ret (st.put o.dst (.c (.k .str (tab.getD off []))))
     | none=> .no
   | _,_=> .no
 | _=> .no
theorem Acq {H:Ax T} {P:Program} {I:World->Prop} {st:Af T} (hw:AI H st) {o:Oper}:Yl (dga P o st) (fun a_=>(∃ H',Nx H st H' a_)/\a_.pre=st.pre/\ ∀ K:St->Prop,K a_.toSt->DL P I o st.toSt K):=by
 unfold dga;split
 ·rename_i t g x hop;split
  ·rename_i k i n E hev ht;refine Yl.opt fun u hu=>?_;obtain⟨H4,n4⟩:=Af.aai hw o.dst (v:= .c (.c (.afy g (Int.toNat i)))) (by simp only [DV.ok,DC.ok]);refine Yl.ret ⟨⟨H4,n4⟩,AU _ _ _,fun K hK=>?_⟩;have agu:=st.abD x;rw [hev]at agu;rw [Af.k_]at hK;exact DL.aub hop (yP hu) hK (by rw [agu];rfl) ht
  ·exact Yl.no
 ·exact Yl.no
theorem Acr {H:Ax T} {P:Program} {I:World->Prop} {Γ:List (CE T P I)} {st:Af T} (hw:AI H st) {o:Oper}:Yl (dgl Γ o st) (fun a_=>(∃ H',Nx H st H' a_)/\a_.pre=st.pre/\ ∀ K:St->Prop,K a_.toSt->DL P I o st.toSt K):=by
 unfold dgl;split
 ·rename_i t x hop;split
  ·rename_i g off hev ht;split
   ·rename_i tab htab;refine Yl.opt fun u hu=>?_;obtain⟨H4,n4⟩:=Af.aai hw o.dst (v:= .c (.k .str (tab.getD off []))) (by simp only [DV.ok,DC.ok]);refine Yl.ret ⟨⟨H4,n4⟩,AU _ _ _,fun K hK=>?_⟩;have agu:=st.abD x;rw [hev]at agu;rw [Af.k_]at hK;exact DL.aua hop (QG htab) (CJ hu) hK (by rw [agu];rfl) ht
   ·exact Yl.no
  ·exact Yl.no
 ·exact Yl.no
end Go.PL
set_option linter.all false
namespace Go.PL
open Go Go.RowKit
variable {T:Bm}
def di (st:Af T) (E:Nat):Nat->List (DC T)->Option (List (T.den E)×List Ah)
 | 0,[]=>some ([],[])
 | 0,_::_=>none
 | n+1,cs=>match RJ st (T.ks E) (cs.take (T.sz E)),di st E n (cs.drop (T.sz E))with
   | some (z,rs),some (l,rs')=>some (T.bd E z::l,rs++rs')
   | _,_=>none
structure AgO (st:Af T) (E:Nat) (cs:List (DC T)) (l:List (T.den E)) (rs:List Ah) (b:Nat) (ars:List AR):Prop where
 ids:ars.map (·.r)=rs
 len:cs.length=l.length*T.sz E
 at_: ∀ x∈ars,st.toSt.look x.r=some x.ent/\b<=x.k/\x.k<b+cs.length/\(Av cs)[x.k - b]? =some (.j_ x.r)
 akj: ∀ pre post:List C,pre.length=b->Jf (pre++((Av cs).map Ny++post)) ars=pre++(l.flatMap (T.aaV E)++post)
 pure:Am ((Av cs).map Ny)=true
 noi:((Av cs).map Ny).all lZ=true
theorem nL (cs:List (DC T)) (n:Nat):Av cs=Av (cs.take n)++Av (cs.drop n):=by grind [CP,List.take_append_drop]
theorem fB (l:List C) (a b:List AR):Jf l (a++b)=Jf (Jf l a) b:=by grind [Jf]
theorem Yo {st:Af T} {E:Nat}: ∀ {n:Nat} {cs:List (DC T)} {l:List (T.den E)} {rs:List Ah},di st E n cs=some (l,rs)-> ∀ b:Nat, ∃ ars,AgO st E cs l rs b ars/\l.length=n
 | 0,[],l,rs,h,b=>by simp only [di,injEq]at h;injection h with h1 h2;subst h1 h2;exact⟨[],⟨rfl,by simp,(by grind),(fun pre post _=>rfl),rfl,rfl⟩,rfl⟩
 | 0,_::_,_,_,h,_=>by simp [di]at h
 | n+1,cs,l,rs,h,b=>by
   unfold di at h;split at h
   ·rename_i z rs1 l' rs' h1 h2;injection h with h;injection h with e1 e2;subst e1 e2;obtain⟨a1,ha⟩:=JK h1 b;obtain⟨a2,hb,hl⟩:=Yo h2 (b+T.sz E);have hlen:(cs.take (T.sz E)).length =T.sz E:=ha.len;have hle:T.sz E<=cs.length:=by grind
    have hd:(cs.drop (T.sz E)).length =cs.length - T.sz E:=List.length_drop;have htl:(Av (cs.take (T.sz E))).length =T.sz E:=by rw [AO,hlen]
    have hsp:=nL cs (T.sz E);have hdz:BX T (T.ks E) z=T.aaV E (T.bd E z):=by rw [Bm.aaV,T.aet]
    refine⟨a1++a2,⟨by rw [map_append,ha.ids,hb.ids],?_,fun x hx=>?_,fun pre post hp=>?_,?_,?_⟩,by simp [hl]⟩
    ·have:=hb.len;simp_all [add_mul]
    ·rcases mem_append.1 hx with hx | hx
     ·obtain⟨p1,p2,p3,p4⟩:=ha.at_ x hx;grind
     ·obtain⟨p1,p2,p3,p4⟩:=hb.at_ x hx;grind
    ·rw [hsp,map_append,List.append_assoc,fB,ha.akj pre _ hp,hdz];have:=hb.akj (pre++T.aaV E (T.bd E z)) post (by grind [Ey]);grind
    ·rw [hsp,map_append,BZ,ha.pure,hb.pure];rfl
    ·rw [hsp,map_append,List.all_append,ha.noi,hb.noi];rfl
   ·cases h
theorem IA {E:Nat} {n:Int}: ∀ {l:List (T.den E)} {k:Int},k+l.length<=n->AC T E n k l=l.flatMap (T.aaV E)
 | [],_,_=>rfl
 | x::l,k,h=>by simp only [List.length_cons]at h;rw [AC,if_pos (by omega),IA (by omega),flatMap_cons]
def Yp (rs:List Ah) (r i:Ah):Bool:=match Bc i r with
 | true=>true
 | false=>match Bc i (1000003::r)with
   | true=>true
   | false=>TR rs (1000003::r) i
theorem Oy {rs:List Ah} {r i:Ah} (h:Yp rs r i=false):i ≠ r/\i ≠ 1000003::r/\TR rs (1000003::r) i=false/\DM (1000003::r) i=false:=by
 unfold Yp at h;split at h
 ·cases h
 ·rename_i h1;split at h
  ·cases h
  ·rename_i h2;refine⟨(by grind [AP]),(by grind [AP]),h,?_⟩;have: ∀ rs:List Ah,TR rs (1000003::r) i=false->DM (1000003::r) i=false:=by intro rs;induction rs<;>grind [TR,Lb]
   grind
def dsb (P:Program) (o:Oper) (st:Af T):M (Af T):=match o.op,o.dst with
 | .buildSlice t len ps,some d=>match DR P t,HB st [] ps.toList with
   | some (E,n,_),some vs=>match Qr P E with
     | some z=>match U4 (fun i=>some (i*n,n)) ((List.replicate len z).flatMap id) (vs.map fun x=>(x.1,TA x.2))with
       | some cs=>match di st E len cs with
         | some (l,rs)=>Tf ((Nat.beq n (T.sz E)&&(Nat.beq z.length n&&(Nat.blt 0 n&&Nat.ble (len*n) (2 ^ 24))))&&(Nat.blt 0 len&&(LE rs&&(!Qw rs (d::st.pre)&&(!Ep (d::st.pre)&& !CM (d::st.pre))))))
          (.ret ((Bn [(1000003::d::st.pre, .deep E (l.length:Nat) l none)] (st.acs (Yp rs (d::st.pre)))).put (some d) (.c (.c (.j_ (1000003::d::st.pre))))))
         | none=> .no
       | none=> .no
     | none=> .no
   | _,_=> .no
 | _,_=> .no
theorem Oz {p q:Ah->Bool} (h: ∀ i,q i=true->p i=true) {v:V} (hv:v.i_ p=false):Bz q v=v:=by unfold Bz;rw [if_neg (by rw [F4 h v hv];simp)]
theorem fC {p:Ah->Bool} {r:Ah} (hr:p r=true) {v:V} (hv:v.i_ p=false):Es r v=v:=by grind [Es,eM]
theorem cU.put {p:Ah->Bool} {id:Ah} {ns:List Ah} {new:Au} {A B:St} (h:cU p id ns new A B) (d:Nat) {v:V} (hv:v.i_ p=false):cU p id ns new (A.put (some d) v) (B.put (some d) v):=by refine⟨by simp [St.put,h.len],fun i=>?_,h.ani,h.gh,h.so,h.nd,h.pre⟩;have hl:=h.len;have:=h.tm i;simp only [St.put,List.getD_eq_getElem?_getD,getElem?_set,hl]at this ⊢;grind
theorem Acs {H:Ax T} {P:Program} {I:World->Prop} {st:Af T} (hw:AI H st) {o:Oper}:Yl (dsb P o st) (fun a_=>(∃ H',Nx H st H' a_)/\a_.pre=st.pre/\ ∀ K:St->Prop,K a_.toSt->DL P I o st.toSt K):=by
 unfold dsb;split
 ·rename_i t len ps d hop hd;split
  ·rename_i E n by' vs abg hp;split
   ·rename_i z hz;split
    ·rename_i cs hf;split
     ·rename_i l rs hea;refine Yl.Tf fun hg=>?_;simp only [and_eq_true,beq_eq,blt_eq,ble_eq,not_eq_true']at hg;obtain⟨⟨g1,g2,g3,g4⟩,g5,g6,g7,g8,g9⟩:=hg;subst g1;generalize hr0:d::st.pre=r0 at g7 g8 g9 ⊢;have hrs:r0∉rs:=(by grind [Qy]);obtain⟨ars,ha,hl⟩:=Yo hea 0;obtain⟨⟨H1,n1⟩,k4,k5⟩:=M2 hw (Yp rs r0);obtain⟨H2,n2⟩:=JJ (l:=[(1000003::r0,DX.deep E (l.length:Nat) l none)]) n1 (fun p hp=>by rcases mem_singleton.1 hp with rfl;trivial) (by simp) (fun p hp e he q=>by rcases mem_singleton.1 hp with rfl;have:=(Oy (k5 e he).2.1).2.1;exact this q)
      obtain⟨s1,s2,s3,s4,s5,_⟩:=EH [(1000003::r0,DX.deep E (l.length:Nat) l none)] (st.acs (Yp rs r0));obtain⟨H3,n3⟩:=Af.H_ n2 (some d) (v:= .c (.c (.j_ (1000003::r0)))) (by simp only [DV.ok,DC.ok]);refine Yl.ret ⟨⟨H3,n3⟩,by grind [AU],fun K hK F a w G Q hI hR=>?_⟩;obtain⟨p1,p2,p3⟩:=Gx (key:=[]) hw (fun _ hl=>by cases hl) rfl hp;obtain⟨z1,z2⟩:=Ix hz;obtain⟨f1,_⟩:=Kl hf;rw [Qt z (by omega),XL]at f1;change (st.toSt.parts true ps.toList).1 at p2;change (st.toSt.parts true ps.toList).2=jz vs at p3;rw [<-p3]at f1;obtain⟨aa5,q1,q2,q3,q4,q5⟩:=J4 hR abg z1 f1 p2 (by rw [AO];exact g2) g3 g4;have s_:(execOp a.eval o).run P w= .ok (.value (.slice (some ⟨w.heap.size,0,none⟩) len len)) (w.alloc (.cells aa5 E)):=by simp [execOp,hop,q1]
      have hml:((Av cs).map Ny).length =len*T.sz E:=by grind
      have A_:=hR.row r0 E (T.sz E) len len ((Av cs).map Ny) aa5 aa5.toList (Ye q2) (by grind) hml q4 (le_refl _) q5 true (fun _=>ha.pure);have atA:(⟨r0,some (E,T.sz E,len),(Av cs).map Ny,true⟩:Au)∈(st.toSt.new ⟨r0,some (E,T.sz E,len),(Av cs).map Ny,true⟩).so :=by grind [St.new,Ra,Au.kill]
      have axJ:=A_.ads atA rfl g8 rfl;obtain⟨G2,h2,h3,h4⟩:=A_.alu axJ rfl rfl ha.noi (id:=1000003::r0) rfl rfl;have aah:G2.own (1000003::r0)=some (.slice (some ⟨w.heap.size,0,none⟩) len len):=by rw [h3];simp [Ci]
      have hL:=h2.M_ List.mem_cons_self rfl rfl;have hb:G2.o_ (1000003::r0)=some w.heap.size:=by obtain⟨hm,_⟩:=O8 hL;have hE:=h2.store _ hm;grind [Ba]
      have h5:=h2.put (d:=some d) (v:= .slice (some ⟨w.heap.size,0,none⟩) len len) (x:= .c (.j_ (1000003::r0))) (by simp only [Ab,Ae];exact⟨aah,rfl⟩);have hL5:=h5.M_ (e:=⟨1000003::r0,some (E,T.sz E,len),(Av cs).map Ny,true⟩) (id:=1000003::r0) (by simp only [St.put];exact List.mem_cons_self) rfl rfl;have abh: ∀ e∈st.toSt.so,e.id ≠ r0->e.id ≠ 1000003::r0->(e.pu=true\/CO (Yp rs r0) e.cs=false)->e∈((st.toSt.new ⟨r0,some (E,T.sz E,len),(Av cs).map Ny,true⟩).e_ (fun i=>i==r0||(i==1000003::r0||DM (1000003::r0) i)) (⟨1000003::r0,some (E,T.sz E,len),(Av cs).map Ny,true⟩::(((st.toSt.new ⟨r0,some (E,T.sz E,len),(Av cs).map Ny,true⟩).so.filter (fun d=>d.id != r0&&d.id != 1000003::r0)).map (Au.e_ (fun i=>i==r0||(i==1000003::r0||DM (1000003::r0) i)))))).so :=by
       intro e he e1 e2 e3;simp only [St.e_,mem_cons,mem_map,mem_filter];right;have hk:e.kill r0=e:=by
        obtain⟨i,r,c,pu⟩:=e;cases pu with
        | true=>rfl
        | false=>
          rcases e3 with e3 | e3
          ·cases e3
          ·exact Au.adt (by
            simp only [Au.fre,Bool.false_or,not_eq_true'];cases hq:BU r0 c with
            | false=>rfl
            | true=>
              have:=W6 (Yp rs r0) r0 c e3 hq;simp [Yp,AP.2 rfl]at this)
       have hkp:e.e_ (fun i=>i==r0||(i==1000003::r0||DM (1000003::r0) i))=e:=by
        obtain⟨i,r,c,pu⟩:=e;cases pu with
        | true=>rfl
        | false=>
          rcases e3 with e3 | e3
          ·cases e3
          ·simp only [Au.e_,Au.mk.injEq,true_and,and_true];grind [TK,F3,Yp,Oy]
       grind [St.new,Ra,St.kill]
      have afW: ∀ i,(i==r0||(i==1000003::r0||DM (1000003::r0) i))=true->Yp rs r0 i=true:=(by grind [Yp,Oy]);have apt: ∀ i,TR rs (1000003::r0) i=true->Yp rs r0 i=true:=(by grind [Oy]);have apu:Yp rs r0 r0=true:=by grind
      have ahI: ∀ v:V,v.i_ (Yp rs r0)=false->Bz (fun i=>i==r0||(i==1000003::r0||DM (1000003::r0) i)) (Es r0 v)=v:=(by grind [fC,Oz]);have aye:(C.j_ (1000003::r0)).i_ (TR rs (1000003::r0))=false:=by
       simp only [C.i_];have: ∀ rs':List Ah,(∀ x∈rs',Ep x=false)->TR rs' (1000003::r0) (1000003::r0)=false:=by
        intro rs';induction rs' with
        | nil=>
          intro _;simp only [TR,Lb];cases hq:DM (1000003::r0) (1000003::r0)with
          | false=>rfl
          | true=>have:=FD hq;cases this
        | cons y rs' ih=>
          intro hy;simp only [TR];split
          ·rename_i hq;have:=AP.1 hq;have h8:=hy y (by simp);rw [<-this]at h8;cases h8
          grind
       refine this rs fun x hx=>?_;rw [<-ha.ids]at hx;obtain⟨ar,har,rfl⟩:=mem_map.1 hx;exact FP (ha.at_ ar har).1
      obtain⟨G',q⟩:=h5.agK (p:=TR rs (1000003::r0)) ars hL5 hb (fun ar har=>by
       obtain⟨p1,_,p3',p4⟩:=ha.at_ ar har;obtain⟨hmr,af0⟩:=Bi p1;have hnd:=FP p1;have hin:ar.r∈rs:=by rw [<-ha.ids];grind
       have hrr:ar.r ≠ r0:=(by grind);have hrD:ar.r ≠ 1000003::r0:=fun q=>by rw [q]at hnd;cases hnd
       obtain⟨v,v1,v2⟩:=Yf q2 p4;simp only [Ae]at v2;refine⟨h5.ads (abh _ hmr (by grind) (by grind) (.inl rfl)) af0 hnd rfl,by grind,fy hin,v,?_,?_⟩
       all_goals simp_all [Ci]) (by rw [ha.ids];exact Gu g6) ((Bn [(1000003::r0,DX.deep E (l.length:Nat) l none)] (st.acs (Yp rs r0))).put (some d) (.c (.c (.j_ (1000003::r0))))).toSt (by
       rw [Af.k_];refine cU.put ?_ d (by grind [V.i_]);have aam:ah (1000003::r0,(DX.deep E (l.length:Nat) l none:DX T))=⟨1000003::r0,some (E,T.sz E,len),Jf ((Av cs).map Ny) ars,true⟩:=by show (⟨1000003::r0,some (E,T.sz E,l.length),AC T E (l.length:Nat) 0 l,true⟩:Au)=_;have:=ha.akj [] [] rfl;grind [IA]
       have etm:(Bn [(1000003::r0,DX.deep E (l.length:Nat) l none)] (st.acs (Yp rs r0))).toSt.tm =(st.acs (Yp rs r0)).toSt.tm :=by grind [Af.toSt]
       have egh:(Bn [(1000003::r0,DX.deep E (l.length:Nat) l none)] (st.acs (Yp rs r0))).toSt.gh =(st.acs (Yp rs r0)).toSt.gh :=by simp only [Af.toSt,s2]
       have hz2: ∀ (r:Ah),Es r .undef = .undef :=fun r=>by simp [Es,V.p_]
       have hz3: ∀ (p:Ah->Bool),Bz p .undef = .undef :=fun p=>by simp [Bz,V.i_]
       have gm: ∀ (m:List V) (f:V->V),f .undef = .undef -> ∀ i,(m.map f).getD i .undef =f (m.getD i .undef):=(by grind);refine⟨?_,fun i=>?_,?_,fun i=>?_,fun x hx=>?_,FQ n2.ok,?_⟩
       ·rw [etm];show (AE _ _).length =_;simp only [St.e_,St.new,St.kill,List.length_map,Bw];show _=(AE _ _).length;rw [Bw];rfl
       ·rw [etm];rcases Yc (p:=Yp rs r0) st.m st.nx st.tm i with q | ⟨q,q'⟩
        ·exact .inl q
        ·right;have e:(St.e_ (st.toSt.new ⟨r0,some (E,T.sz E,len),(Av cs).map Ny,true⟩) (fun i=>i==r0||(i==1000003::r0||DM (1000003::r0) i)) (⟨1000003::r0,some (E,T.sz E,len),(Av cs).map Ny,true⟩::(((st.toSt.new ⟨r0,some (E,T.sz E,len),(Av cs).map Ny,true⟩).so.filter (fun d=>d.id != r0&&d.id != 1000003::r0)).map (Au.e_ (fun i=>i==r0||(i==1000003::r0||DM (1000003::r0) i)))))).tm.getD i .undef =st.toSt.tm.getD i .undef :=by simp only [St.e_,St.new,St.kill];rw [gm _ _ (hz3 _),gm _ _ (hz2 _)];exact ahI _ q'
         rw [e];exact⟨q,F4 apt _ q'⟩
       ·rw [egh];have:=(jV (p:=Yp rs r0) st.gh (st.nx+st.tm.length)).1;simp only [St.e_,St.new,St.kill,List.length_map];exact this
       ·rw [egh];rcases (jV (p:=Yp rs r0) st.gh (st.nx+st.tm.length)).2 i with q | ⟨q,q'⟩
        ·exact .inl q
        ·right;have e:(St.e_ (st.toSt.new ⟨r0,some (E,T.sz E,len),(Av cs).map Ny,true⟩) (fun i=>i==r0||(i==1000003::r0||DM (1000003::r0) i)) (⟨1000003::r0,some (E,T.sz E,len),(Av cs).map Ny,true⟩::(((st.toSt.new ⟨r0,some (E,T.sz E,len),(Av cs).map Ny,true⟩).so.filter (fun d=>d.id != r0&&d.id != 1000003::r0)).map (Au.e_ (fun i=>i==r0||(i==1000003::r0||DM (1000003::r0) i)))))).gh.getD i .undef =st.toSt.gh.getD i .undef :=by simp only [St.e_,St.new,St.kill];rw [gm _ _ (hz3 _),gm _ _ (hz2 _)];exact ahI _ q'
         rw [e];exact⟨q,F4 apt _ q'⟩
       ·rw [s5]at hx;simp only [map_cons,map_nil,List.singleton_append,mem_cons]at hx;rcases hx with rfl | hx
        ·grind
        ·right;obtain⟨e,he,rfl⟩:=mem_map.1 hx;obtain⟨c1,c2,c3⟩:=k5 e he;obtain⟨t1,t2,t3,_⟩:=Oy c2;have hpm:e.toE.pu=true\/CO (Yp rs r0) e.toE.cs=false:=by
          unfold DE.toE;cases hx:e.x with
          | box cs=>
            right;rw [hx]at c3;simpa only [DX.i_,GD] using c3
          | row E l=>grind
          | deep E n l h=>grind
         refine⟨abh _ (mem_map.2 ⟨e,c1,rfl⟩) (by rw [DE.toE_id];exact t1) (by rw [DE.toE_id];exact t2) hpm,by rw [DE.toE_id];exact t2,?_,(by grind [F3])⟩;rw [DE.toE_id,ha.ids];grind [Wv]
       ·show (Bn _ _).pre =st.pre;grind)
      grind [AK]
     ·exact Yl.no
    ·exact Yl.no
   ·exact Yl.no
  ·exact Yl.no
 ·exact Yl.no
end Go.PL
set_option linter.all false
namespace Go.PL
open Go Go.RowKit
mutual
theorem pX (p q:Ah->Bool): ∀ c:C,c.i_ (fun i=>p i||q i)=(c.i_ p||c.i_ q)
 | .j_ _=>rfl
 | .ptr _ _=>rfl
 | .rsl _ _ _ _=>rfl
 | .bsl _ _ _=>rfl
 | .bld _ _=>rfl
 | .afo _=>rfl
 | .clo _ cs=>by simp only [C.i_];exact Yq p q cs
 | .bmv _ cs=>by simp only [C.i_];exact Yq p q cs
 | .int .. =>rfl
 | .bool _=>rfl
 | .str _=>rfl
 | .sl .. =>rfl
 | .aby .. =>rfl
 | .ab_ =>rfl
 | .aag =>rfl
 | .L_ =>rfl
 | .fn _=>rfl
 | .held =>rfl
 | .any =>rfl
 | .afy .. =>rfl
 | .mp _=>rfl
 | .isl .. =>rfl
theorem Yq (p q:Ah->Bool): ∀ cs:List C,CO (fun i=>p i||q i) cs=(CO p cs||CO q cs)
 | []=>rfl
 | c::cs=>by simp only [CO,pX p q c,Yq p q cs];cases c.i_ p<;>cases c.i_ q<;>cases CO p cs<;>rfl
end
theorem si (p q:Ah->Bool) (c:C):Cy q (Cy p c)=Cy (fun i=>p i||q i) c:=by
 unfold Cy;rw [pX];cases h:c.i_ p
 ·simp
 ·simp [C.i_]
theorem Au.amP (p q:Ah->Bool) (e:Au):(e.e_ p).e_ q=e.e_ (fun i=>p i||q i):=by
 obtain⟨i,r,cs,_ | _⟩:=e
 ·simp only [Au.e_,map_map,Au.mk.injEq,true_and,and_true];exact map_congr_left fun c _=>si p q c
 ·rfl
def j6 (q id i:Ah):Bool:=i==q||(DM q i||DM id i)
def ma (q id:Ah) (off:Nat) (i:Ah):Option Ah:=if i=q then none else match i with
 | m::k::r=>if m=1000007 then(if r=q then none else if r=id/\off<=k then some (1000007::(k - off)::q)else some (m::k::r))else some (m::k::r)
 | i=>some i
theorem vg (k:Nat) (i:Ah):BR k i=1000007::k::i:=rfl
theorem Acu {q id:Ah} {off k:Nat} (hq:CM q=false) (Tg:id ≠ q):ma q id off (BR (off+k) id)=some (BR k q):=by unfold ma;rw [if_neg (CQ hq _).symm];simp [vg,Tg]
theorem Acv {q id:Ah} {off k:Nat} (hq:CM q=false) (Tg:id ≠ q) (hk:k<off):ma q id off (BR k id)=some (BR k id):=by unfold ma;rw [if_neg (CQ hq _).symm];simp [vg,Tg];omega
theorem vh {q id:Ah} {off:Nat} {i:Ah} (h:j6 q id i=false):ma q id off i=some i:=by
 simp only [j6,or_eq_false_iff,beq_eq_false_iff_ne]at h;obtain⟨h1,h2,h3⟩:=h;unfold ma;rw [if_neg h1];split
 ·rename_i m k r;split
  ·rename_i hm;subst hm;have a1:r ≠ q:=fun e=>by subst e;simp [DM]at h2
   have a2:r ≠ id:=fun e=>by subst e;simp [DM]at h3
   rw [if_neg a1,if_neg (fun e=>a2 e.1)]
  ·rfl
 ·rfl
theorem yQ {q id:Ah} {off:Nat} {i j a:Ah} (h1:ma q id off i=some a) (h2:ma q id off j=some a):i=j:=by
 have key: ∀ i a,ma q id off i=some a->(i=a/\(∀ k,a ≠ 1000007::k::q))\/ ∃ k,i=1000007::(off+k)::id/\a=1000007::k::q:=by
  intro i a h;have short: ∀ i:Ah,i.length<2->ma q id off i=some a->i=a:=fun i hi h=>by
   rcases i with _ | ⟨m,_ | ⟨k,r⟩⟩
   ·simp only [ma]at h;split at h<;>simp_all
   ·simp only [ma]at h;split at h<;>simp_all
   ·simp at hi;omega
  by_cases hl:i.length<2
  ·have:=short i hl h;subst this;exact .inl ⟨rfl,fun k e=>by rw [e]at hl;simp at hl;omega⟩
  ·rcases i with _ | ⟨m,_ | ⟨k,r⟩⟩
   ·simp at hl
   ·simp at hl
   ·simp only [ma]at h;split at h
    ·cases h
    ·split at h
     ·rename_i hm;subst hm;split at h
      ·cases h
      ·rename_i hr;split at h
       ·rename_i hh;injection h with h;exact .inr ⟨k - off,by rw [hh.1];congr 2;omega,h.symm⟩
       ·injection h with h;exact .inl ⟨h,fun k' e=>by rw [<-h]at e;injection e with _ e;injection e with _ e;exact hr e⟩
     ·rename_i hm;injection h with h;exact .inl ⟨h,fun k' e=>by rw [<-h]at e;injection e with e _;exact hm e⟩
 rcases key i a h1 with ⟨e1,f1⟩ | ⟨k,e1,f1⟩<;>rcases key j a h2 with ⟨e2,f2⟩ | ⟨k',e2,f2⟩
 ·rw [e1,e2]
 ·exact absurd f2 (f1 k')
 ·exact absurd f1 (f2 k)
 ·rw [f1]at f2;injection f2 with _ f2;injection f2 with f2 _;rw [e1,e2,f2]
def tq:C->C
 | .isl .. => .any
 | c=>c
theorem j8: ∀ {cs:List C},Am cs=true->Am (cs.map tq)=true
 | [],_=>rfl
 | c::cs,h=>by simp only [map_cons,Am,and_eq_true]at h ⊢;exact⟨by cases c<;>first | exact h.1 | rfl,j8 h.2⟩
theorem pY: ∀ cs:List C,(cs.map tq).all lZ=true
 | []=>rfl
 | c::cs=>by simp only [map_cons,all_cons,and_eq_true];exact⟨by cases c<;>rfl,pY cs⟩
theorem j9 {w:World} {G:AF}: ∀ {cs:List C} {vs:List Value},Ai w G cs vs->Ai w G (cs.map tq) vs
 | [],[],_=>by simp [Ai]
 | [],_::_,h=>by simp [Ai]at h
 | _::_,[],h=>by simp [Ai]at h
 | c::cs,v::vs,h=>by simp only [Ai,map_cons]at h ⊢;exact⟨by cases c<;>exact h.1,j9 h.2⟩
theorem Yr {w:World} {G:AF}: ∀ {cs:List C} {b o:Nat},Al w G (cs.map tq) b o↔Al w G cs b o
 | [],_,_=>Iff.rfl
 | c::cs,b,o=>by simp only [map_cons,Al,Yr (cs:=cs)];cases c<;>exact Iff.rfl
section
variable {F:Fr} {st:St} {a:Act} {w:World} {G:AF}
theorem R.amL (h:R F st a w G) {id q:Ah} {e eq:Au} (hl:st.K_ id=some e) (hq:st.K_ q=some eq) (Tg:id ≠ q) {b off:Nat} (hb:G.o_ id=some b) (ace:off<=e.cs.length) (hdr:e.cs.drop off=eq.cs.map tq)
 (abq: ∀ k E n len cs v,eq.cs[k]? =some (.isl E n len cs)->G.own (BR k q)=some v->w.cell? ⟨b,off+k,none⟩=some v):
 ∃ G',R F (st.e_ (j6 q id) (((st.so.filter (fun d=>d.id != q)).map (Au.e_ (j6 q id))).map (Tp id e.row (e.cs.take off++eq.cs)))) a w G'/\G'.own id=G.own id:=by
 obtain⟨hm,hid,hd,hmk,hpu,hpe,hi,E0,n0,ag1,hr0⟩:=h.aaU hl;obtain⟨hmq,atK,hdq,aoI,aES,axA,hiq,_⟩:=h.aaU hq;let G':AF:=⟨fun i=>(ma q id off i).bind G.o_,fun i=>(ma q id off i).bind G.own,fun b=>F.av b\/ ∃ i,(ma q id off i).bind G.o_=some b⟩;have hag: ∀ i,j6 q id i=false->G'.o_ i=G.o_ i/\G'.own i=G.own i:=by intro i hpi;simp only [G',vh hpi,Option.bind_some,and_self]
 have t:aaf F (j6 q id) (fun _=>false) G G' w w:=Hv h G' rfl hag (fun i b hib=>by
  obtain⟨j,_,hj⟩:=bind_eq_some_iff.1 hib;exact⟨j,hj⟩) (fun i j b hib hjb=>by
  obtain⟨x,hx,hx2⟩:=bind_eq_some_iff.1 hib;obtain⟨y,hy,hy2⟩:=bind_eq_some_iff.1 hjb;have:=h.inj _ _ b hx2 hy2;subst this;exact yQ hx hy)
 have pid:j6 q id id=false:=by
  have h1:DM q id=false:=by
   cases hh:DM q id with
   | false=>rfl
   | true=>rw [FD hh]at hmk;cases hmk
  have h2:DM id id=false:=by
   cases hh:DM id id with
   | false=>rfl
   | true=>rw [FD hh]at hmk;cases hmk
  simp [j6,Tg,h1,h2]
 have gid:=hag id pid;have ghi: ∀ k,G'.o_ (BR (off+k) id)=G.o_ (BR k q)/\G'.own (BR (off+k) id)=G.own (BR k q):=fun k=>by simp only [G',Acu aoI Tg,Option.bind_some,and_self]
 have glo: ∀ k,k<off->G'.o_ (BR k id)=G.o_ (BR k id)/\G'.own (BR k id)=G.own (BR k id):=fun k hk=>by simp only [G',Acv aoI Tg hk,Option.bind_some,and_self]
 obtain⟨E1,n1,ajj,v1,abN,ahS,g1,g2,g3,g4,g5,g6,g7,g8,g9⟩:=h.adv hl hb;have hcells:Am (e.cs.take off++eq.cs)=true:=by rw [BZ,axA,Bool.and_true];rw [Cn,all_eq_true]at hpe ⊢;exact fun c hc=>hpe c (List.mem_of_mem_take hc)
 have hlen:(e.cs.take off++eq.cs).length =e.cs.length:=by have:=congrArg List.length hdr;simp at this ⊢;omega
 have hno: ∀ cs:List C,Am cs=true->JR (fun i=>BU i cs=true) G G':=fun cs hp i hi'=>absurd (show BU i cs=true from hi') (by rw [AQ i cs hp];simp);have aez:Ba w G' ⟨id,e.row,e.cs.take off++eq.cs,true⟩:=by
  unfold Ba;rw [g1];refine⟨by rw [hlen];grind,v1,by grind, .inr ⟨b,abN,ahS,g4,by grind,g5,g6,g7,g8,?_⟩⟩;have h9:=Al.mono t.keeps _ _ _ (hno _ hpe) (fun _=>rfl) g9;rw [<-Yr]at h9 ⊢;have:(e.cs.take off++eq.cs).map tq=e.cs.map tq:=by
   rw [map_append, <-hdr];have e1:(e.cs.drop off).map tq=e.cs.drop off:=by rw [hdr,map_map];exact map_congr_left fun c _=>by cases c<;>rfl
   rw [<-e1, <-map_append,List.take_append_drop]
  rw [this];exact h9
 have hin:E9 w G' ⟨id,e.row,e.cs.take off++eq.cs,true⟩:=by
  intro j E2 n2 abf cs2 hj;by_cases hjo:j<off
  ·rw [List.getElem?_append_left (by simp;omega),List.getElem?_take_of_lt hjo]at hj;obtain⟨k1,k2,b2,v2,k3,k4,k5⟩:=h.inner hl hj;have gjj:=glo j hjo;exact⟨k1,CF t.keeps (hno _ k1) gjj (fun _ _=>rfl) k2,b2,v2,by rw [gid.1];exact k3,k4,by rw [gjj.2];exact k5⟩
  ·obtain⟨k,rfl⟩: ∃ k,j=off+k:=⟨j - off,by omega⟩;rw [List.getElem?_append_right (by simp;omega),List.length_take,Nat.min_eq_left ace,Nat.add_sub_cancel_left]at hj;obtain⟨k1,k2,b2,v2,k3,k4,k5⟩:=h.inner hq hj;obtain⟨gh1,gh2⟩:=ghi k;exact⟨k1,fa t.keeps k1 gh1 gh2 k2,b,v2,by rw [gid.1];exact hb,abq _ _ _ _ _ _ hj k5,by rw [gh2];exact k5⟩
 have Ts:=t.akI h hl (fun d=>d.id != q) (fun d hd' hf ac7=>by
  have hdm:=(h.deep d hd').1;have hdq:d.id ≠ q:=by simpa using hf
  have ofF: ∀ x,DM x d.id=false:=fun x=>by
   cases hh:DM x d.id with
   | false=>rfl
   | true=>rw [FD hh]at hdm;cases hdm
  refine⟨by simp [j6,hdq,ofF],rfl,fun _ k=>⟨?_,rfl⟩⟩;have:BR k d.id ≠ q:=(CQ aoI k).symm;simp [j6,this,IZ,hdq,ac7]) (by rw [g1];rfl) aez hin hcells
 exact⟨G',t.aeX h _ Ts.1 Ts.2.1 Ts.2.2.1 Ts.2.2.2,gid.2⟩
end
variable {T:Bm}
def nM:Option (DC T)->Bool
 | some (.c .L_)=>true
 | _=>false
def yR (i:Ah) (j:Nat) (k:Ah) (s:Af T):Option (Af T):=match K6 s i with
 | some cs=>match nM cs[j]? with
   | true=>some (s.abe i (.box (cs.set j (.c (.j_ k)))))
   | false=>none
 | none=>none
def Af.own (st:Af T) (i:Ah) (j:Nat) (k:Ah) (E:Nat):Option (Af T):=match k with
 | 1000003::k0=>match st.new k0 (.row E [])with
   | some s=>match dpn k0 s with
     | some s=>yR i j (1000003::k0) s
     | none=>none
   | none=>none
 | k=>match st.new k (.row E [])with
   | some s=>yR i j k s
   | none=>none
theorem kf {o:Option (DC T)} (h:nM o=true):o=some (.c .L_):=by grind [nM]
theorem dj {H:Ax T} {s s':Af T} {i k:Ah} {j:Nat} (h:AI H s) (ho:yR i j k s=some s'):(∃ H',Nx H s H' s')/\s'.pre=s.pre/\ ∀ (F:Fr) (a:Act) (w:World) (G:AF),R F s.toSt a w G->G.own k=some (.slice none 0 0)->R F s'.toSt a w G:=by
 unfold yR at ho;split at ho
 ·rename_i cs hb;split at ho
  ·rename_i hn;injection ho with ho;subst ho;have hc:=kf hn;have hok:(DX.box (cs.set j (.c (.j_ k)))).ok :=De.2 fun c hm=>by
    rcases List.mem_or_eq_of_mem_set hm with q | q
    ·exact De.1 (Rx h hb) c q
    grind [DC.ok]
   obtain⟨H2,n2⟩:=Af.aa8 h i hok;refine⟨⟨H2,n2⟩,rfl,fun F a w G hR ho=>?_⟩;obtain⟨hl,_,e,e1,e2,e3⟩:=Hz hb;have am5:s.toSt.aji i j=true:=by
    unfold St.aji;rw [hl];have:(Av cs)[j]? =some .L_ :=by rw [CP,List.getElem?_map,hc];rfl
    grind
   have aey:(s.abe i (.box (cs.set j (.c (.j_ k))))).toSt =s.toSt.setCell i j (.j_ k):=by
    have hF:=XI (t:=s.nx) (x:= .box (cs.set j (.c (.j_ k)))) (F:=fun e=>if e.id==i&& !e.pu then⟨e.id,e.row,e.cs.set j (.j_ k),false⟩else e) (id:=i)
     (by grind) h.nd e1 e2 (by
      rw [DE.toE_box e3];simp_all [DE.toE,CP,DC.toC])
    simp_all [Af.toSt,Af.abe,St.setCell]
   rw [aey];exact hR.setCell am5 ho
  ·cases ho
 ·cases ho
theorem vi {H:Ax T} {st a_:Af T} {i k:Ah} {j E:Nat} (h:AI H st) (ho:st.own i j k E=some a_):(∃ H',Nx H st H' a_)/\Wk st.toSt a_.toSt/\a_.pre=st.pre:=by
 unfold Af.own at ho;split at ho
 ·rename_i k0;split at ho
  ·rename_i s hs;split at ho
   ·rename_i s2 hs2;obtain⟨⟨H1,n1⟩,h2,h3⟩:=Af.aca h (x:= .row E []) trivial hs;obtain⟨⟨H2,n2⟩,p2,k2⟩:=jW n1.ok hs2;obtain⟨⟨H3,n3⟩,p3,k3⟩:=dj n2.ok ho;refine⟨⟨H3,(n1.trans n2).trans n3⟩,?_,by rw [p3,p2,h3]⟩;intro F a w G hR;have q1:=hR.akp k0 E (T.sz E);have e5:(⟨k0,0,DX.row E []⟩:DE T).toE =⟨k0,some (E,T.sz E,0),[],true⟩:=rfl;rw [e5]at h2;obtain⟨G',g1,g2⟩:=k2 _ _ _ _ (q1.less h2);exact⟨G',k3 _ _ _ _ g1 (by rw [g2];simp [Ci])⟩
   ·cases ho
  ·cases ho
 ·split at ho
  ·rename_i s hs;obtain⟨⟨H1,n1⟩,h2,h3⟩:=Af.aca h (x:= .row E []) trivial hs;obtain⟨⟨H3,n3⟩,p3,k3⟩:=dj n1.ok ho;refine⟨⟨H3,n1.trans n3⟩,?_,by rw [p3,h3]⟩;intro F a w G hR;have q1:=hR.akp k E (T.sz E);have e5:(⟨k,0,DX.row E []⟩:DE T).toE =⟨k,some (E,T.sz E,0),[],true⟩:=rfl;rw [e5]at h2;exact⟨_,k3 _ _ _ _ (q1.less h2) (by simp [Ci])⟩
  ·cases ho
def kg:List (Ah×Nat×Ah×Nat)->Af T->Option (Af T)
 | [],st=>some st
 | (i,j,k,E)::r,st=>match st.own i j k E with
   | some s=>kg r s
   | none=>none
theorem dk {H0:Ax T} {st0:Af T}: ∀ {l:List (Ah×Nat×Ah×Nat)} {st a_:Af T} {H:Ax T},Nx H0 st0 H st->kg l st=some a_->(∃ H',Nx H0 st0 H' a_)/\Wk st.toSt a_.toSt/\a_.pre=st.pre
 | [],st,a_,H,hN,h=>by simp only [kg,injEq]at h;subst h;exact⟨⟨H,hN⟩,Wk.less (B8.refl _),rfl⟩
 | (i,j,k,E)::r,st,a_,H,hN,h=>by
   simp only [kg]at h;split at h
   ·rename_i s hs;obtain⟨⟨H1,n1⟩,w1,p1⟩:=vi hN.ok hs;obtain⟨a,b,c⟩:=dk (hN.trans n1) h;exact⟨a,w1.trans b,c.trans p1⟩
   ·cases h
def QH (q id i:Ah):Bool:=match Bc i id with
 | true=>true
 | false=>match Bc i q with
   | true=>true
   | false=>match LH.adX q i with
     | true=>true
     | false=>LH.adX id i
theorem fD (q id:Ah):QH q id=fun i=>(i==id)||j6 q id i:=by funext i;unfold QH j6;simp only [Lb,CW];cases i==id<;>cases i==q<;>cases DM q i<;>rfl
def dad (P:Program) (o:Oper) (st:Af T):M (Af T):=match o.op,o.dst with
 | .call c,some d=>match c.callee,c.args.toList,c.argTypes.toList with
   | .builtin .append,[u,x],[t,t']=>match st.arg [] u,st.arg [] x,DR P t with
     | some (.c (.c (.j_ id))),some (.c (.c (.j_ q))),some (E',n,by')=>match Ki st id,Ki st q with
       | some ⟨E,(nn,l,none)⟩,some ⟨E2,(mm,m,none)⟩=>match Ya E E2 m with
         | some m'=>Tf (Nat.beq t t'&&(Nat.beq E' E&&(Nat.beq n (T.sz E)&&(Nat.blt 0 n&&(Ep id&&(Ep q&& !Bc id q)))))) (.opt (app by' l m') fun r=> .opt (n_ (nn=(l.length:Int)/\mm=(m'.length:Int)/\0<m'.length)) fun _=>
          .ret ((Bn [(id, .deep E (r.length:Nat) r none)] (st.IN (QH q id))).put (some d) (.c (.c (.j_ id)))))
         | none=> .no
       | _,_=> .no
     | _,_,_=> .no
   | _,_,_=> .no
 | _,_=> .no
theorem Acw {H:Ax T} {P:Program} {I:World->Prop} {st:Af T} (hw:AI H st) {o:Oper}:Yl (dad P o st) (fun a_=>(∃ H',Nx H st H' a_)/\a_.pre=st.pre/\ ∀ K:St->Prop,K a_.toSt->DL P I o st.toSt K):=by
 unfold dad;split
 case h_2=>exact Yl.no
 rename_i c d hop af1;split
 case h_2=>exact Yl.no
 rename_i u x t t' adK abQ akD;split
 case h_2=>exact Yl.no
 rename_i id q E' n by' hu hx abg;split
 case h_2=>exact Yl.no
 rename_i E nn l E2 mm m hdi hdq;split
 case h_2=>exact Yl.no
 rename_i m' atW;refine Yl.Tf fun hg=>Yl.opt fun r hr=>Yl.opt fun un hun=>?_;simp only [and_eq_true,beq_eq,blt_eq,not_eq_true']at hg;obtain⟨g1,g2,g3,g4,g5,g6,g7⟩:=hg;subst g1 g2 g3;obtain⟨e2,hm'⟩:=Ks atW;subst e2;replace hm':m'=m:=hm';subst hm';obtain⟨hnn,hmm,hm0⟩:=CJ hun;have hrx:=tR hr;have hrb:=Kf hr;have Tg:id ≠ q:=fun e=>by rw [AP.2 e]at g7;cases g7
 obtain⟨axE,_,ei,ax3,ax2,ax1⟩:=B9 hdi;obtain⟨aoI,_,eq,axY,axX,axW⟩:=B9 hdq;have hE:ei.toE=⟨id,some (E2,T.sz E2,l.length),AC T E2 nn 0 l,true⟩:=by unfold DE.toE;rw [ax1,ax2];rfl
 have hQ:eq.toE=⟨q,some (E2,T.sz E2,m'.length),AC T E2 mm 0 m',true⟩:=by unfold DE.toE;rw [axW,axX];rfl
 obtain⟨⟨H1,n1⟩,k1,k2,k3,k4,k5⟩:=Af.ab0 hw (QH q id);obtain⟨H2,n2⟩:=JJ (l:=[(id,DX.deep E2 (r.length:Nat) r none)]) n1 (fun p hp=>by rcases mem_singleton.1 hp with rfl;trivial) (by simp) (fun p hp e he q'=>by rcases mem_singleton.1 hp with rfl;have:=k5 e he;rw [fD,q']at this;simp at this)
 obtain⟨s1,s2,s3,s4,s5,_⟩:=EH [(id,DX.deep E2 (r.length:Nat) r none)] (st.IN (QH q id));obtain⟨H3,n3⟩:=Af.H_ n2 (some d) (v:= .c (.c (.j_ id))) (by simp only [DV.ok,DC.ok]);refine Yl.ret ⟨⟨H3,n3⟩,by rw [AU,s3];exact k4,fun K hK F a w G Q hI hR=>?_⟩;obtain⟨a1,a2,a3⟩:=HC hw hu;obtain⟨b1,b2,b3⟩:=HC hw hx;have huv:=hR.arg rfl a2;have U_:=hR.arg rfl b2;rw [a3]at huv;rw [b3]at U_;simp only [DV.toV,DC.toC,Ab,Ae]at huv U_;have hmi:ei.toE∈st.toSt.so:=mem_map.2 ⟨ei,ax3,rfl⟩;have hmq:eq.toE∈st.toSt.so:=mem_map.2 ⟨eq,axY,rfl⟩;have hL:st.toSt.K_ id=some ei.toE:=hR.M_ hmi (by rw [hE]) g5;have hLq:st.toSt.K_ q=some eq.toE:=hR.M_ hmq (by rw [hQ]) g6;have hpq:Am eq.toE.cs=true:=hR.y_ _ hmq (by rw [hQ]);obtain⟨v,xs,c1,c2,c3,c4⟩:=DI (e:=ei.toE) (by rw [hE]) (hR.store _ hmi);obtain⟨vq,us,d1,d2,d3,d4⟩:=DI (e:=eq.toE) (by rw [hQ]) (hR.store _ hmq);rw [show ei.toE.id=id by rw [hE],huv.1]at c1;injection c1 with c1;rw [show eq.toE.id=q by rw [hQ],U_.1]at d1;injection d1 with d1;obtain⟨i,z,hty,hi,hz,hsz,hby,hzs⟩:=DJ abg;rcases d4 with ⟨d4,d5⟩ | ⟨_,_,d4,_⟩
 case inr=>omega
 obtain⟨bq,ann,azc,p1,_,p2,p3,p4,p5,p6⟩: ∃ g cap cur,vq= .slice (some ⟨g,0,none⟩) m'.length cap/\0<=g/\w.heap[g]? =some (.cells cur E2 (0,0))/\m'.length<=cap/\cap<=maxLen/\cur.size=cap*T.sz E2/\cur.toList.take (m'.length*T.sz E2)=us:=by
  rcases d4.2 with ⟨_,h0⟩ | h1
  ·omega
  ·exact h1
 have hul:us.length=m'.length*T.sz E2:=d4.1;have hbq:G.o_ q=some bq:=by rw [<-show eq.toE.id=q by rw [hQ], <-d5,p1];rfl
 have adG: ∀ j u',us[j]? =some u'->w.cell? ((⟨bq,0,none⟩:Addr).add j)=some u':=d4.cells (g:=bq) (by rw [p1];rfl);have acy: ∀ u∈us,u.oneCell'=true:=Ai.one d3;have aqT: ∀ k E2 n len cs v,eq.toE.cs[k]? =some (.isl E2 n len cs)->G.own (BR k q)=some v->us[k]? =some v:=by
  intro k E2 n len cs v hk ho;obtain⟨_,_,b2,v2,i1,i2,i3⟩:=hR.inner hLq hk;rw [hbq]at i1;injection i1 with i1;subst i1;rw [ho]at i3;injection i3 with i3;subst i3;have hkl:k<us.length:=by have:=d3.length;have:=(List.getElem?_eq_some_iff.1 hk).1;omega
  have:=adG k us[k] (List.getElem?_eq_getElem hkl);rw [Addr.add_mid]at this;rw [List.getElem?_eq_getElem hkl];have e0:(⟨bq,0+k,none⟩:Addr)=⟨bq,k,none⟩:=by rw [zero_add]
  rw [e0,i2]at this;exact this.symm
 have main: ∀ v0 v' w',(Builtin.append_ #[t,t] o.type #[a.eval u,a.eval x]).run P w= .ok v' w'->v0.ownBlock=G.o_ id->(∀ b j u',G.o_ id=some b->xs[j]? =some u'->w.cell? ⟨b,j,none⟩=some u')->w.ownsRow 0 E2 (T.sz E2) v0 l.length xs->w'.ownsRow 0 E2 (T.sz E2) v' (l.length+m'.length) (xs++us)->w.grownBy w' v0.ownBlock->(v'.ownBlock=v0.ownBlock\/ ∀ b,v'.ownBlock=some b->w.heap.size<=b)->o.wp P a w (ir F K) Q:=by
  intro v0 v' w' s_ hob hxc hold aam hg hfr;obtain⟨f1,f2⟩:=hR.afC hL (by rw [hE]) hob c3 (j9 d3) hxc hold aam hg hfr (j8 hpq) (pY _);have A_:ei.toE.row=some (E2,T.sz E2,l.length):=by rw [hE]
  have hpe:ei.toE.e_ (· ==id)=ei.toE:=by rw [hE];rfl
  have hD:=f1.M_ (e:=⟨id,some (E2,T.sz E2,l.length+m'.length),ei.toE.cs++eq.toE.cs.map tq,true⟩) (id:=id) (by
   refine mem_map.2 ⟨ei.toE,mem_map.2 ⟨ei.toE,hmi,hpe⟩,?_⟩;rw [Em (by rw [hE]),hE]) rfl g5
  have hDq:=f1.M_ (e:=eq.toE) (id:=q) (by
   refine mem_map.2 ⟨eq.toE,mem_map.2 ⟨eq.toE,hmq,by rw [hQ];rfl⟩,?_⟩;exact El (by rw [hQ];exact Tg.symm)) (by rw [hQ]) g6
  have hlx:xs.length=l.length*T.sz E2:=hold.1;have hcl:ei.toE.cs.length=xs.length:=c3.length;have hnl:(xs++us).length =(l.length+m'.length)*T.sz E2:=aam.1;obtain⟨g,cap,cur,r1,_,r2,r3,r4,r5,r6⟩: ∃ g cap cur,v'= .slice (some ⟨g,0,none⟩) (l.length+m'.length) cap/\0<=g/\w'.heap[g]? =some (.cells cur E2 (0,0))/\l.length+m'.length<=cap/\cap<=maxLen/\cur.size=cap*T.sz E2/\cur.toList.take ((l.length+m'.length)*T.sz E2)=xs++us:=by
   rcases aam.2 with ⟨_,h0⟩ | h1
   ·omega
   ·exact h1
  have abq: ∀ k v,us[k]? =some v->w'.cell? ⟨g,ei.toE.cs.length+k,none⟩=some v:=by intro k v hk;have hrg:=BE r2 (us:=xs++us) (rest:=cur.toList.drop ((l.length+m'.length)*T.sz E2)) (by rw [<-r6,List.take_append_drop]);have hkl:=(List.getElem?_eq_some_iff.1 hk).1;have:=hrg (ei.toE.cs.length+k) v (by rw [hcl,List.getElem?_append_right (by omega),Nat.add_sub_cancel_left];exact hk);grind
  obtain⟨G',q1,q2⟩:=f1.amL hD hDq Tg (b:=g) (off:=ei.toE.cs.length) (by simp [Ci,r1,Value.ownBlock]) (by simp) (by simp) (fun k E2 n len cs v hk ho=>abq k v (aqT k E2 n len cs v hk (by
   have:BR k q ≠ id:=(CQ axE k).symm;simpa [Ci,this] using ho)))
  have ea:c.args= #[u,x]:=by have:=congrArg List.toArray abQ;simpa using this
  have et:c.argTypes= #[t,t]:=by have:=congrArg List.toArray akD;simpa using this
  have ajs:(execOp a.eval o).run P w= .ok (.value v') w':=by simp [execOp,hop,resolve,adK,ea,et,invoke,builtin,s_]
  refine AK ajs ⟨_,G',hK,?_⟩;rw [af1];have am9:=R.put (d:=some d) q1 (show Ab w' G' (V.c (C.j_ id)) v' by simp only [Ab,Ae];exact⟨by rw [q2];simp [Ci],f2⟩);refine am9.less ?_;rw [Af.k_];have ahI: ∀ v:V,Bz (j6 q id) (Bz (· ==id) v)=Bz (QH q id) v\/Bz (QH q id) v= .undef :=by
   intro v;by_cases hh:v.i_ (QH q id)=true
   ·exact .inr (by unfold Bz;rw [if_pos hh])
   ·have hh:v.i_ (QH q id)=false:=by simpa using hh
    left;rw [fD]at hh ⊢;rw [Oz (q:=(· ==id)) (fun i hi=>by simp only [beq_iff_eq]at hi;simp [hi]) hh,Oz (q:=j6 q id) (fun i hi=>by simp [hi]) hh];unfold Bz;rw [if_neg (by simp [hh])]
  have hls: ∀ l:List V,JG ((l.map (Bz (· ==id))).map (Bz (j6 q id))) (l.map (Bz (QH q id))):=fun l=>by
   rw [map_map];exact JG.map fun v _=>by
    rcases ahI v with e | e
    ·exact .inr e.symm
    ·exact .inl e
  have htr: ∀ {a b c:List V},JG a b->JG b c->JG a c:=by
   intro a b c h1 h2;obtain⟨l1,g1⟩:=h1.get;obtain⟨l2,g2⟩:=h2.get;exact JG.of (l2.trans l1) fun i=>by
    rcases g2 i with e | e
    ·exact .inl e
    ·rw [e];exact g1 i
  refine B8.put (Lc ?_ ?_ ?_ ?_ ?_) _ _
  ·have:(Bn [(id,DX.deep E2 (r.length:Nat) r none)] (st.IN (QH q id))).toSt.tm =(st.IN (QH q id)).toSt.tm :=by simp only [Af.toSt,s1,s4]
   rw [this];exact htr (hls _) k1
  ·have:(Bn [(id,DX.deep E2 (r.length:Nat) r none)] (st.IN (QH q id))).toSt.gh =(st.IN (QH q id)).toSt.gh :=by simp only [Af.toSt,s2]
   rw [this];exact htr (hls _) k2
  ·intro y hy;rw [s5]at hy;simp only [map_cons,map_nil,List.singleton_append,mem_cons]at hy;simp only [St.e_,mem_map,mem_filter];rcases hy with rfl | hy
   ·refine⟨⟨id,some (E2,T.sz E2,l.length+m'.length),ei.toE.cs++eq.toE.cs.map tq,true⟩,⟨⟨id,some (E2,T.sz E2,l.length+m'.length),ei.toE.cs++eq.toE.cs.map tq,true⟩,⟨⟨ei.toE,⟨ei.toE,hmi,hpe⟩,by rw [Em (by rw [hE]),hE]⟩,by simpa using Tg⟩,rfl⟩,?_⟩;refine(Em rfl).trans ?_;show (⟨id,_,(ei.toE.cs++eq.toE.cs.map tq).take ei.toE.cs.length++eq.toE.cs,true⟩:Au)=⟨id,some (E2,T.sz E2,r.length),AC T E2 (r.length:Nat) 0 r,true⟩;rw [List.take_left',hrx,hE,hQ,List.length_append]
    ·congr 1;simp only;rw [IA (by omega),IA (by omega),IA (by simp),List.flatMap_append]
    ·rfl
   ·rw [k3]at hy;obtain⟨e3,h1,rfl⟩:=mem_map.1 hy;obtain⟨h1,h2⟩:=mem_filter.1 h1;rw [fD]at h2 ⊢;simp only [not_eq_true',or_eq_false_iff,beq_eq_false_iff_ne,j6]at h2;obtain⟨h2,h3,h4⟩:=h2;refine⟨(e3.e_ (· ==id)).e_ (j6 q id),⟨e3.e_ (· ==id),⟨⟨e3.e_ (· ==id),⟨e3,h1,rfl⟩,El (by rw [Au.u_];exact h2)⟩,by rw [Au.u_];simpa using h3⟩,rfl⟩,?_⟩;rw [El (by rw [Au.u_,Au.u_];exact h2),Au.amP]
  ·exact FQ n2.ok
  ·rw [show (Bn [(id,DX.deep E2 (r.length:Nat) r none)] (st.IN (QH q id))).toSt.pre =st.pre from by show (Bn _ _).pre =_;rw [s3];exact k4];rfl
 rw [show ei.toE.id=id by rw [hE]]at c4;rcases c4 with ⟨c4,c5⟩ | ⟨p,hvp,h0,hxs,c5⟩
 ·have hxc: ∀ b j u',G.o_ id=some b->xs[j]? =some u'->w.cell? ⟨b,j,none⟩=some u':=by intro b j u' hb' hj;have:=c4.cells (g:=b) (by grind) j u' hj;grind [Addr.add_mid]
  obtain⟨v',w',s_,aah,hg,hfr⟩:=IX (P:=P) (w:=w) t o.type E2 i z (T.sz E2) by' hty hi hz hsz hby hzs g4 v l.length xs c4 ⟨bq,0,none⟩ m'.length ann us hul adG acy hrb.2 hrb.1;exact main v v' w' (by rw [c1,d1,p1];exact s_) c5 hxc c4 aah hg hfr
 ·have atb:xs=[]:=hxs;obtain⟨v',w',s_,aah,hg,hfr⟩:=IY (P:=P) (w:=w) t o.type E2 i z (T.sz E2) by' hty hi hz hsz hby hzs g4 p ⟨bq,0,none⟩ m'.length ann us hul adG (by omega) (by have:=hrb.2;omega) (by have:=hrb.1;rw [h0,zero_add]at this;exact this);exact main (.slice none 0 0) v' w' (by rw [c1,d1,p1,hvp];exact s_) c5.symm (by rw [c5];intro b j u' hb';cases hb') ⟨by rw [atb,h0];simp, .inl ⟨rfl,h0⟩⟩ (by rw [atb,h0,zero_add,List.nil_append];exact aah) (by exact hg) (.inr hfr)
theorem adV {P:Program} (w:World) (dT sT ty elem:TypeId) (d a:Option Addr) (auj ay9 asn avX:Nat) (hu:P.underlying dT=some (.slice elem)) (hs:(P.info? elem).map (·.size)=some 1) (hn:Nat.min asn auj=0):
 (Builtin.copy_ #[dT,sT] ty #[.slice d auj ay9, .slice a asn avX]).run P w= .ok (goInt 0) w:=by
 cases hq:P.info? elem with
 | none=>simp [hq]at hs
 | some i=>
   have hl: ∀ (x:Addr),(loadCells x 0).run P w= .ok #[] w:=fun x=>by simpa using run_loadCells_list (P:=P) w x [] (by simp)
   cases d<;>cases a<;>simp [Builtin.copy_,run_underlying hu,Builtin.lenOf,Builtin.firstCells,sizeOf,typeInfo,hq,hn,storeCells,hl]
def dcp (P:Program) (o:Oper) (st:Af T):M (Af T):=match o.op,o.dst with
 | .call c,some d=>match c.callee,c.args.toList,c.argTypes.toList with
   | .builtin .copy,[x,y],[t,_]=>match st.arg [] x,st.arg [] y,Dt P t with
     | some (.c (.c (.j_ id))),some (.c y'),some (e,n)=>match DN st id with
       | some ⟨E,l⟩=>match Iq false (.t_ E) y' with
         | some m=>Tf (Nat.beq e E&&(Nat.beq n (T.sz E)&&Nat.beq n 1)) (.opt (n_ (m.length=l.length)) fun _=>
          .ret ((st.abe id (.row E m)).put (some d) (.c (.k (.int .i64) ((List.length l:Nat):Int)))))
         | none=> .no
       | none=> .no
     | _,_,_=> .no
   | _,_,_=> .no
 | _,_=> .no
theorem Acx {H:Ax T} {P:Program} {I:World->Prop} {st:Af T} (hw:AI H st) {o:Oper}:Yl (dcp P o st) (fun a_=>(∃ H',Nx H st H' a_)/\a_.pre=st.pre/\ ∀ K:St->Prop,K a_.toSt->DL P I o st.toSt K):=by
 unfold dcp;split
 case h_2=>exact Yl.no
 rename_i c d hop af1;split
 case h_2=>exact Yl.no
 rename_i x y t t2 adK abQ akD;split
 case h_2=>exact Yl.no
 rename_i id y' e n hx hy ht;split
 case h_2=>exact Yl.no
 rename_i E l hr;split
 case h_2=>exact Yl.no
 rename_i m hm;refine Yl.Tf fun hg=>Yl.opt fun u hn=>Yl.ret ?_;simp only [and_eq_true,beq_eq]at hg;obtain⟨g1,g2,g3⟩:=hg;subst g1;have aqF:T.sz e=1:=by omega
 have hlen:=CJ hn;obtain⟨a1,a2,a3⟩:=HC hw hx;obtain⟨b1,b2,b3⟩:=HC hw hy;obtain⟨hu,inf,hi1,hsz⟩:=DQ ht;obtain⟨H1,n1⟩:=Af.aa8 hw id (x:= .row e m) trivial;obtain⟨H2,n2⟩:=Af.H_ n1 (some d) (v:= .c (.k (.int .i64) ((l.length:Nat):Int))) (by simp only [DV.ok,DC.ok]);refine⟨⟨H2,n2⟩,by rw [AU];rfl,fun K hK F a w G Q hI hR=>?_⟩;have U_:=hR.arg rfl a2;rw [a3]at U_;simp only [DV.toV,DC.toC,Ab,Ae]at U_;have hyv:=hR.arg rfl b2;have hyc:y'.toC=Bk T.enc (.t_ e) m:=(CK hm).2 rfl;rw [b3]at hyv;simp only [DV.toV,hyc,Bk,Ab,Ae]at hyv;obtain⟨hpm,ad,akK,hye,_,_,_,A_⟩:=hyv;obtain⟨v,v1,v2⟩:=hR.acH hr;rw [U_.1]at v1;injection v1 with v1;have ea:c.args= #[x,y]:=by have:=congrArg List.toArray abQ;simpa using this
 have et:c.argTypes= #[t,t2]:=by have:=congrArg List.toArray akD;simpa using this
 have hs1:(P.info? e).map (·.size)=some 1:=by rw [hi1];simp only [map_some,injEq];omega
 have fin: ∀ w',(Builtin.copy_ #[t,t2] o.type #[a.eval x,a.eval y]).run P w= .ok (goInt l.length) w'->R F (st.abe id (.row e m)).toSt a w' G->o.wp P a w (ir F K) Q:=by
  intro w' s_ hR';have ajs:(execOp a.eval o).run P w= .ok (.value (goInt l.length)) w':=by simp [execOp,hop,resolve,adK,ea,et,invoke,builtin,s_]
  refine AK ajs ⟨_,G,hK,?_⟩;rw [af1,Af.k_];exact hR'.put (by simp only [DV.toV,DC.toC,Bk,Ab,Ae,goInt])
 have ao6:l.length=0->R F (st.abe id (.row e m)).toSt a w G:=by
  intro h0;have hml:m=l:=by rw [List.length_eq_zero_iff.1 h0,List.length_eq_zero_iff.1 (hlen.trans h0)]
  obtain⟨h1,_,e0,e1,e2,e3⟩:=BQ hr;refine hR.less ⟨rfl,fun i=> .inr rfl,fun z hz=>?_,fun _=>FQ n1.ok,⟨rfl,fun i=> .inr rfl⟩,rfl⟩;obtain⟨e5,h5,rfl⟩:=mem_map.1 hz;rcases abU hw.nd h5 with ⟨h6,_⟩ | h6
  ·exact mem_map.2 ⟨e5,h6,rfl⟩
  ·subst h6;refine mem_map.2 ⟨e0,e1,?_⟩;rw [DE.toE_row e3,e2,hml];rfl
 rcases v2 with ⟨p,rfl,h0⟩ | ⟨b,cap,cur,rfl,v3,v4,v5,v6,v7,v8⟩
 ·have s_:=adV (P:=P) w t t2 o.type e p ad 0 0 (List.length m) akK hu hs1 (Nat.min_zero _);exact fin w (by rw [v1,hye,h0];exact s_) (ao6 h0)
 ·by_cases h0:l.length=0
  ·have s_:=adV (P:=P) w t t2 o.type e (some ⟨b,0,none⟩) ad l.length cap (List.length m) akK hu hs1 (by rw [h0];exact Nat.min_zero _);exact fin w (by rw [v1,hye,h0]at *;exact s_) (ao6 h0)
  ·rcases A_ with A_ | ⟨b2,off,rfl,hwr,hb2,A_⟩
   ·omega
   ·obtain⟨us,u1,u2⟩:=A_.list;have hul:us.length=l.length:=by have h7:(List.flatMap (T.enc e) m).length =List.length m*T.sz e:=Yg (fun y=>AS e y) m;rw [<-u1.length,h7,aqF,mul_one,hlen]
    have hml:(m.flatMap (T.enc e)).length =l.length:=by rw [u1.length,hul]
    obtain⟨ac8,T',s1,s2,s3⟩:=R.afR (m:=m) hR hw hr v3 (off:=0) u1 hpm hlen (by
     rw [List.take_zero,List.nil_append,zero_add,List.drop_eq_nil_of_le (by
      have h7:(List.flatMap (T.enc e) l).length =List.length l*T.sz e:=Yg (fun y=>AS e y) l;rw [hml,h7,aqF];omega),List.append_nil]) (by rw [hml,aqF];omega)
    have s_:=run_copy_row (P:=P) w t t2 o.type e b 0 l.length cap ⟨b2,off,none⟩ (List.length m) akK ac8 T' us hu hs1 s1 (by rw [hul,hlen];simp) (fun j v hv=>by have:=u2 j v hv;rw [Addr.add_mid];exact this) (by omega) (Ai.one u1)
    rw [hul]at s_;exact fin _ (by rw [v1,hye];exact s_) (by rw [hul]at s3;exact s3)
end Go.PL
namespace Go.PL
open Go Go.RowKit
variable {T:Bm}
def jn {X R:Type} (J:X->Option R) (body:(X->Option R)->Option R):Option R:=body J
inductive Sp where
 | co
 | sub (md:Bool)
 | clr
 | apb
 | dlx
 | dsa
 | dse
 | mk
 | ss
 | ins
 | bf
 | sb
 | mld
 | mix
 | mst
 | lz
 | by_
 | ga
 | gl
 | ad
 | cp
 | au
inductive Gh where
 | tr (d:Nat)
 | dp (d:Nat)
 | fd (id:Ah)
 | ug (ks:List Nat)
mutual
inductive Hn where
 | n
 | s (a b:Hn)
 | j (sh:Iy) (a b:Hn)
 | i (a b:Hn)
 | l (sh:Iy) (xs:List (Nat×Iy)) (b:Hn)
 | r (fz:List Ah) (ow:List (Ah×Nat×Ah×Nat)) (il:Hl)
 | x
inductive Hl where
 | n
 | c (k:Nat) (h:Hn) (r:Hl)
 | j (k:Nat) (sh:Iy) (h:Hn) (r:Hl)
 | q (k:Nat) (sp:Sp) (r:Hl)
 | u (k:Nat) (ks:List Nat) (ke:List Ah) (kd:Kd) (h:Hn) (r:Hl)
 | g (k:Nat) (gh:Gh) (r:Hl)
 | t (r:Hl)
end
def Hn.a:Hn->Hn
 | .s a _=>a
 | .i a _=>a
 | _=> .n
def Hn.b:Hn->Hn
 | .s _ b=>b
 | .i _ b=>b
 | _=> .n
inductive HA where
 | n
 | c (h:Hn)
 | j (sh:Iy) (h:Hn)
 | q (sp:Sp)
 | u (ks:List Nat) (ke:List Ah) (kd:Kd) (h:Hn)
def Mj:Hl->Nat->HA
 | .n,_=> .n
 | .c k h r,i=>match Nat.beq k i with
   | true=> .c h
   | false=>Mj r i
 | .j k sh h r,i=>match Nat.beq k i with
   | true=> .j sh h
   | false=>Mj r i
 | .q k sp r,i=>match Nat.beq k i with
   | true=> .q sp
   | false=>Mj r i
 | .u k ks ke kd h r,i=>match Nat.beq k i with
   | true=> .u ks ke kd h
   | false=>Mj r i
 | .g _ _ r,i=>Mj r i
 | .t r,i=>Mj r i
def AgS:Hl->Bool
 | .t _=>true
 | _=>false
def dgh:Gh->Af T->M (Af T)
 | .tr d,st=>dtr d st
 | .dp d,st=>ddp d st
 | .fd id,st=>match st.aq8 id with
   | some s=> .ret s
   | none=> .no
 | .ug ks,st=> .ret (dug ks st)
def TU:Hl->Nat->Af T->M (Af T)
 | .n,_,st=> .ret st
 | .c _ _ r,i,st=>TU r i st
 | .j _ _ _ r,i,st=>TU r i st
 | .q _ _ r,i,st=>TU r i st
 | .u _ _ _ _ _ r,i,st=>TU r i st
 | .t r,i,st=>TU r i st
 | .g k g r,i,st=>match Nat.beq k i with
   | true=> .Q_ (dgh g st) (TU r i)
   | false=>TU r i st
theorem Acy {H:Ax T} {st:Af T} (hw:AI H st) (g:Gh):Yl (dgh g st) (fun a_=>(∃ H',Nx H st H' a_)/\a_.pre=st.pre/\Wk st.toSt a_.toSt):=by cases g<;>grind [Acf,u0,Yl.ret,Ack,dgh,sd,Yl.no]
theorem GU (i:Nat): ∀ (il:Hl) {H:Ax T} {st:Af T},AI H st->Yl (TU il i st) (fun a_=>(∃ H',Nx H st H' a_)/\a_.pre=st.pre/\Wk st.toSt a_.toSt)
 | .n,H,st,hw=>Yl.ret ⟨⟨H,Nx.refl hw⟩,rfl,Wk.less (B8.refl _)⟩
 | .c _ _ r,H,st,hw=>GU i r hw
 | .j _ _ _ r,H,st,hw=>GU i r hw
 | .q _ _ r,H,st,hw=>GU i r hw
 | .u _ _ _ _ _ r,H,st,hw=>GU i r hw
 | .t r,H,st,hw=>GU i r hw
 | .g k g r,H,st,hw=>by
   unfold TU;split
   ·refine Yl.Q_ (Acy hw g) fun s hs=>?_;obtain⟨⟨H1,n1⟩,p1,w1⟩:=hs;refine(GU i r n1.ok).mono fun s' hs'=>?_;obtain⟨⟨H2,n2⟩,p2,w2⟩:=hs';exact⟨⟨H2,n1.trans n2⟩,p2.trans p1,w1.trans w2⟩
   ·exact GU i r hw
def nN (st:Af T) (xs:List Operand):List Ah:=match Je st [] xs with
 | some vs=>RH vs
 | none=>[]
theorem M3: ∀ {l:List Ah} {st:Af T} {H:Ax T},AI H st->(F6 l st).pre =st.pre
 | [],_,_,_=>rfl
 | i::r,st,H,h=>by
   unfold F6;split
   ·rename_i s hs;obtain⟨⟨H1,a⟩,_,_,b⟩:=Af.afB h hs;rw [M3 a.ok,b]
   ·exact M3 h
theorem DL.wk {P:Program} {I:World->Prop} {o:Oper} {A B:St} {K:St->Prop} (hk:Wk A B) (h:DL P I o B K):DL P I o A K:=fun F a w G Q hI hR=>by obtain⟨G',q⟩:=hk F a w G hR;exact h F a w G' Q hI q
def nO (st:Af T):List (Nat×Operand)->List Ah
 | []=>[]
 | p::r=>nN st [p.2]++nO st r
def dbf (P:Program) (o:Oper) (st:Af T):M (Af T):=match o.op with
 | .buildSlice _ _ ps=>rE P (F6 (nO st ps.toList) st) o
 | _=> .no
theorem Acz {H:Ax T} {P:Program} {I:World->Prop} {st:Af T} (hw:AI H st) {o:Oper}:Yl (dbf P o st) (fun a_=>(∃ H',Nx H st H' a_)/\a_.pre=st.pre/\ ∀ K:St->Prop,K a_.toSt->DL P I o st.toSt K):=by
 unfold dbf;split
 ·rename_i ps hop;obtain⟨⟨H1,n1⟩,w1⟩:=GC (l:=nO st ps.toList) (Nx.refl hw);refine(Wt n1.ok o).mono fun a_ h=>?_;obtain⟨⟨H2,n2⟩,h2,h3,h4⟩:=h;refine⟨⟨H2,n1.trans n2⟩,h4.trans (M3 hw),fun K hK=>DL.wk w1 fun F a w G Q hI hR=>?_⟩;obtain⟨nx,w',G',q1,q2⟩:=(Rf hR h2).out;unfold Oper.wp Oper.upon;rw [q1];rcases q2 with ⟨v,rfl,q3⟩ | ⟨rfl,q3⟩
  ·exact⟨_,G',hK,q3.less h3⟩
  ·exact⟨_,G',hK,q3.less h3⟩
 ·exact Yl.no
def dsp {P:Program} {I:World->Prop} (Γ:List (CE T P I)) (o:Oper) (st:Af T):Sp->M (Af T)
 | .co =>match BH o.op,o.dst with
   | .call f xs,some d=>nG Γ (F6 (nN st xs) st) f xs d
   | _,_=> .no
 | .au => .no
 | .sub md=>yE P o md st
 | .clr =>Acd P o st
 | .apb =>Ace P o st
 | .dlx =>dlx P o st
 | .dsa =>dsa P o st
 | .dse =>dse P o st
 | .mk =>dmk P o st
 | .ss =>Dp P o st
 | .ins =>Acl Γ o st
 | .bf =>dbf P o st
 | .sb =>dsb P o st
 | .mld =>Acm P o st
 | .mix =>Acn P o st
 | .mst =>Aco P o st
 | .lz => .no
 | .by_ =>dby P o st
 | .ga =>dga P o st
 | .gl =>dgl Γ o st
 | .ad =>dad P o st
 | .cp =>dcp P o st
theorem AcA {H:Ax T} {P:Program} {I:World->Prop} {Γ:List (CE T P I)} {st:Af T} (hw:AI H st) (o:Oper) (sp:Sp):Yl (dsp Γ o st sp) (fun a_=>(∃ H',Nx H st H' a_)/\a_.pre=st.pre/\ ∀ K:St->Prop,K a_.toSt->DL P I o st.toSt K):=by
 cases sp with
 | co=>
   unfold dsp;simp only;split
   ·rename_i f xs d hk hd;obtain⟨⟨H1,n1⟩,w1⟩:=GC (l:=nN st xs) (Nx.refl hw);refine(rY n1.ok hk hd).mono fun s ⟨⟨H2,n2⟩,p2,k2⟩=>⟨⟨H2,n1.trans n2⟩,p2.trans (M3 hw),fun K hK=>DL.wk w1 (k2 K hK)⟩
   ·exact Yl.no
 | au=>exact Yl.no
 | sub md=>exact(pU hw).mono fun _ ⟨a,b,c⟩=>⟨a,b,fun K hK=>c.esc hK⟩
 | clr=>exact yF hw
 | apb=>exact yG hw
 | dlx=>exact(uZ hw).mono fun _ ⟨a,b,c⟩=>⟨a,b,fun K hK=>c.esc hK⟩
 | dsa=>exact Acb hw
 | dse=>exact Acc hw
 | mk=>exact Aci hw
 | ss=>exact Acj hw
 | ins=>exact yL hw
 | bf=>exact Acz hw
 | sb=>exact Acs hw
 | mld=>exact yM hw
 | mix=>exact yN hw
 | mst=>exact yO hw
 | lz=>exact Yl.no
 | by_=>exact Acp hw
 | ga=>exact Acq hw
 | gl=>exact Acr hw
 | ad=>exact Acw hw
 | cp=>exact Acx hw
def auL (P:Program) (st:Af T) (o:Oper):Bool:=match o.op with
 | .load t x=>match st.arg [] x with
   | some (.c (.rp id _ _ _))=>Ep id&&(Dt P t).isSome
   | _=>false
 | _=>false
def auS (st:Af T) (o:Oper):Option Sp:=match o.op with
 | .store _ x y=>match st.arg [] x,st.arg [] y with
   | some (.c (.rp id _ _ _)),some v=>match Ep id,v with
     | true, .c (.c (.j_ _))=>some .dsa
     | true, .agg _=>some .dse
     | true,_=>some .ss
     | false,_=>none
   | _,_=>none
 | _=>none
def yS {P:Program} {I:World->Prop} (Γ:List (CE T P I)) (ops:Array Oper) (o:Oper) (st:Af T) (sp:Sp):M (Af T):=match o.guard,sp with
 | none, .au =>match auL P st o,auS st o with
   | true,_=>dsp Γ o st .dlx
   | false,some sp=>dsp Γ o st sp
   | false,none=>dop Γ ops o st
 | none,sp=>dsp Γ o st sp
 | some _,_=> .no
theorem pZ {H:Ax T} {P:Program} {I:World->Prop} {Γ:List (CE T P I)} {ops:Array Oper} {st:Af T} (hw:AI H st) (o:Oper) (sp:Sp):Yl (yS Γ ops o st sp) (uP H P I ops st o):=by have A: ∀ sp,o.guard=none->Yl (dsp Γ o st sp) (uP H P I ops st o):=fun sp hg=>(AcA hw o sp).mono fun s ⟨a,b,c⟩=>⟨a,b,fun K hK=>by unfold bY;rw [hg];exact .inl (c K hK)⟩;unfold yS;grind [fh,Yl.no]
def TV (P:Program) (I:World->Prop) (ops:Array Oper):List Oper->St->(St->Prop)->Prop
 | [],st,K=> ∃ s,Wk st s/\K s
 | o::rest,st,K=> ∃ s,Wk st s/\bY P I ops o s (fun a_=>TV P I ops rest a_ K)
theorem Ys {P:Program} {F:Fr} {ops:Array Oper} {Q:Exit->Act->World->Prop} {K:St->Prop} (hQ: ∀ a_ a' w' G',K a_->R F a_ a' w' G'->Q .normal a' w'):
 ∀ (l:List Oper) (st:St) (a:Act) (w:World) (G:AF),R F st a w G->TV P F.I ops l st K->wpList P ops Q l a w
 | [],st,a,w,G,h,⟨s,hwk,hs⟩=>by obtain⟨G',h'⟩:=hwk _ _ _ _ h;exact hQ s a w G' hs h'
 | o::rest,st,a,w,G,h,⟨s,hwk,hs⟩=>by
   obtain⟨G',h'⟩:=hwk _ _ _ _ h;refine wpList_step fun K' hK'=>?_;have agf: ∀ a' w',ir F (fun a_=>TV P F.I ops rest a_ K) a' w'->K' a' w':=fun a' w' ⟨a_,G',q,hR⟩=>
    hK' a' w' (Ys hQ rest a_ a' w' G' hR q)
   have:=O9 (Q:=Q) h' hs;split at this
   ·rename_i hw;rw [if_pos hw];grind [Oper.wp_mono]
   grind
theorem Ad.aoc {P:Program} {F:Fr} {st:St} {id:Nat} {ops:Array Oper} {Q:Exit->St->Prop} (h:TV P F.I ops ops.toList st (Q .normal)):Ad P F (.region id ops false) st Q:=
 fun _ _ G hR=>wp_region_list (Ys (K:=Q .normal) (fun a_ _ _ G' q hR'=>⟨a_,G',q,hR'⟩) _ _ _ _ G hR h)
def sj (T:Bm):=(R:Type)->Code->Hn->Af T->(Exit->Af T->Option R)->Option R
def kh (P:Program) (I:World->Prop) (rec:sj T):Prop:= ∀ (R:Type) (c:Code) (h:Hn) (st:Af T) (H:Ax T) (K:Exit->Af T->Option R) (r:R),AI H st->rec R c h st K=some r->
 ∀ (F:Fr) (Q:Exit->St->Prop),F.I=I->(∀ H' e a_,Nx H st H' a_->K e a_=some r->Q e a_.toSt)->Ad P F c st.toSt Q
def Wy:DV T->Option (FuncId×Bool×List (DC T))
 | .c (.c (.fn f))=>some (f,false,[])
 | .c (.clo b f cs)=>some (f,b,cs)
 | _=>none
def Ph (b:Bool) (ahU vs:List (DV T)):List (DV T):=match b with
 | true=>ahU++vs
 | false=>vs++ahU
def sk:Option Nat->Nat
 | some d=>d
 | none=>0
def vj (P:Program) (fn:Func) (o:Oper) (st:Af T) (R:Type) (K:Af T->Option R) (e:Exit) (stc:Af T):Option R:=match e with
 | .normal =>uV P stc fn.results.toList R fun v=>match stc.back st o.dst v with
   | some s=>K s
   | none=>none
 | .ret =>uV P stc fn.results.toList R fun v=>match stc.back st o.dst v with
   | some s=>K s
   | none=>none
 | _=>none
def nP (P:Program) (rec:sj T) (o:Oper) (h:Hn) (st:Af T) (R:Type) (K:Af T->Option R):Option R:=
 match o.op,o.guard with
 | .call c,none=>match c.callee with
   | .value x=>match Wy (st.ev x),Je st [] c.args.toList with
     | some (f,b,cs),some vs=>match P.funcs[f]? with
       | some fn=>match fn.body with
         | some body=>match ent P f&&Nat.ble (Ph b (cs.map DV.c) vs).length fn.ntmps with
           | true=>rec R body h (st.enter (sk o.dst) (Ph b (cs.map DV.c) vs) fn.ntmps) (vj P fn o st R K)
           | false=>none
         | none=>none
       | none=>none
     | _,_=>none
   | _=>none
 | _,_=>none
def kpt (ks:List Nat) (ke:List Ah):Iy:=⟨ks,[],ke,[]⟩
def dgd (ops:Array Oper) (o:Oper) (st:Af T):Option (List GL×Nat):=match o.guard,o.dst with
 | some (j,want),some d=>match X1 st ops j want with
   | some key=>some (key,d)
   | none=>none
 | _,_=>none
def VM (key:List GL):List Operand->Af T->Af T
 | [],st=>st
 | .tmp t::r,st=>match st.get t with
   | .g k v=>match Ql k key with
     | true=>VM key r (st.put (some t) v)
     | false=>VM key r st
   | _=>VM key r st
 | _::r,st=>VM key r st
def vk (o:Oper):List Operand:=match o.op with
 | .call c=>c.args.toList
 | _=>[]
theorem M4 {key:List GL} (hc:Bb key=true): ∀ {l:List Operand} {H:Ax T} {st:Af T},AI H st->FE H st.nx key->(∃ H',Nx H st H' (VM key l st))/\(VM key l st).pre =st.pre/\ ∀ F a w G,R F st.toSt a w G->R F (VM key l st).toSt a w G
 | [],H,st,hw,_=>⟨⟨H,Nx.refl hw⟩,rfl,fun _ _ _ _ h=>h⟩
 | .tmp t::r,H,st,hw,hk=>by
   unfold VM;split
   ·rename_i k v hg;split
    ·rename_i hs;have hok:=Af.af2 hw t;rw [hg]at hok;simp only [DV.ok]at hok;have hck:=Oe hs hok.1 hk hc;obtain⟨H1,n1⟩:=Af.aai hw (some t) (hok.2 hck);have hk1:FE H1 (st.put (some t) v).nx key:=fun l hl=>GL.acI n1.ext n1.le (hk l hl);obtain⟨⟨H2,n2⟩,p2,h2⟩:=M4 (l:=r) hc n1.ok hk1;refine⟨⟨H2,n1.trans n2⟩,p2.trans (AU _ _ _),fun F a w G hR=>h2 F a w G ?_⟩;rw [Af.k_];refine hR.aeS ?_;have hsl:Ab w G (st.toSt.get t) (a.tmps.getD t Go.undef):=hR.w_ t;rw [st.aaZ t,hg]at hsl;simp_all [DV.toV,Ab]
    ·exact M4 hc hw hk
   ·exact M4 hc hw hk
 | .const _::r,H,st,hw,hk=>by unfold VM;exact M4 hc hw hk
 | .func _::r,H,st,hw,hk=>by unfold VM;exact M4 hc hw hk
 | .global _::r,H,st,hw,hk=>by unfold VM;exact M4 hc hw hk
def Yt {P:Program} {I:World->Prop} (Γ:List (CE T P I)) (rec:sj T) (ops:Array Oper) (il:Hl):List Oper->Nat->Af T->(R:Type)->(Af T->Option R)->Option R
 | [],k,st,R,K=>TU il k st R K
 | o::rest,k,st,R,K=>TU il k st R fun st=>match Mj il k with
   | .n =>dop Γ ops o st R fun a_=>Yt Γ rec ops il rest (k+1) a_ R K
   | .q sp=>yS Γ ops o st sp R fun a_=>Yt Γ rec ops il rest (k+1) a_ R K
   | .c h=>nP P rec o h st R fun a_=>Yt Γ rec ops il rest (k+1) a_ R K
   | .j sh h=>jn (fun v:RT T sh.ts=>match sh.inst st (CL sh.ts v)with
    | some s=>Yt Γ rec ops il rest (k+1) s R K
    | none=>none) (fun j=>nP P rec o h st R fun b=>match sh.gen st b with
    | some v=>j v
    | none=>none)
   | .u ks ke kd h=>match Pb kd,dgd ops o st with
    | true,some (key,d)=>jn (fun x:Pa T.den kd=>Yt Γ rec ops il rest (k+1) (((kpt ks ke).base st).put (some d) (.g key (.c (.k kd x)))) R K)
     (fun j=>if Bb key=true then nP P rec {o with guard:=none} h (VM key (vk o) st) R fun b=>match (kpt ks ke).gen st b,fc kd (b.get d)with
      | some _,some x=>j x
      | _,_=>none
     else j (AaW T kd))
    | _,_=>none
section
variable {H:Ax T} {P:Program} {I:World->Prop} {Γ:List (CE T P I)} {rec:sj T} {st:Af T} {ops:Array Oper}
theorem Vl {n:Nat} {a b:List (DV T)} (h:CZ H n a) (k:CZ H n b):CZ H n (a++b):=(by grind [Oc])
theorem Vm (a b:List (DV T)):Be (a++b)=Be a++Be b:=by simp [Ob]
theorem dl (cs:List (DC T)):Be (cs.map DV.c)=(Av cs).map V.c:=by simp_all [Ob,CP,DV.toV]
theorem RO (abz:kh P I rec) (hw:AI H st) {o:Oper} {h:Hn} {R:Type} {K:Af T->Option R} {r:R} (hr:nP P rec o h st R K=some r)
 {PK:St->Prop} (hK: ∀ H' a_,Nx H st H' a_->a_.pre=st.pre->K a_=some r->PK a_.toSt):o.guard=none/\DL P I o st.toSt PK:=by
 unfold nP at hr;split at hr
 ·rename_i c hop hgd;refine⟨hgd,?_⟩;split at hr
  ·rename_i x adK;split at hr
   ·rename_i f b cs vs hf hvs;split at hr
    ·rename_i fn hfn;split at hr
     ·rename_i body apM;split at hr
      ·rename_i hm;simp only [and_eq_true,ble_eq]at hm;obtain⟨abh,hlen⟩:=hm;obtain⟨a1,a2,a3⟩:=Dq (key:=[]) hw (Mf _ _) rfl hvs;change (st.toSt.args true c.args.toList).1 at a2;change (st.toSt.args true c.args.toList).2=Be vs at a3;have hev:=Af.als hw x;have atO:=st.abD x;have hcs:Cl cs:=by
        unfold Wy at hf;split at hf
        ·simp only [injEq,Prod.mk.injEq]at hf;obtain⟨rfl,rfl,rfl⟩:=hf;simp [Cl]
        ·rename_i b' f' cs' he;simp only [injEq,Prod.mk.injEq]at hf;obtain⟨rfl,rfl,rfl⟩:=hf;grind [DV.ok,DC.ok]
        ·cases hf
       have apL:CZ H st.nx (cs.map DV.c):=Oc.2 fun v hv=>by obtain⟨d,h1,rfl⟩:=mem_map.1 hv;grind [DV.ok,De]
       have abQ:CZ H st.nx (Ph b (cs.map DV.c) vs):=by
        cases b
        ·exact Vl a1 apL
        ·exact Vl apL a1
       obtain⟨H1,n1⟩:=uU hw (sk o.dst) fn.ntmps abQ;have hst:=nD (st:=st) (k:=sk o.dst) hlen;have hm:st.toSt.tm.length=st.m:=Bw _ _;have main: ∀ w0 av old gv,Ad P ⟨w0,av,old,I,gv⟩ body (st.toSt.enter (sk o.dst) (Be (Ph b (cs.map DV.c) vs)) fn.ntmps) (inQ P fn.results.toList st.toSt.tm.length st.toSt.pre o.dst PK):=by
        intro w0 av old gv;rw [<-hst];refine abz _ _ _ _ _ _ _ n1.ok hr ⟨w0,av,old,I,gv⟩ _ rfl fun H' e stc hN hE=>?_;have fin:uV P stc fn.results.toList R (fun v=>match stc.back st o.dst v with | some s=>K s | none=>none)=some r->
         (CI P stc.toSt fn.results.toList).1/\PK (stc.toSt.back st.toSt.tm.length st.toSt.pre o.dst (CI P stc.toSt fn.results.toList).2):=by
         intro hE;obtain⟨v,⟨v1,v2,v3⟩,hE⟩:=yA hN.ok fn.results.toList R _ r hE;split at hE
         ·rename_i s hs;obtain⟨⟨H2,b1⟩,b2,b3⟩:=rT (n1.trans hN) v1 hs;refine⟨v2,?_⟩;have:=hK H2 s b1 b3 hE;rw [b2]at this;rw [v3,hm];exact this
         ·cases hE
        cases e<;>simp only [inQ]<;>first
         | exact fin hE
         | grind [vj]
       cases b with
       | false=>
         have hcv:Wn st.toSt x=some (f,Av cs):=by
          unfold Wn;rw [atO];unfold Wy at hf;split at hf
          ·rename_i f' he;simp only [injEq,Prod.mk.injEq]at hf;obtain⟨rfl,_,rfl⟩:=hf;grind [DV.toV,DC.toC,Av]
          ·rename_i b' f' cs' he;simp only [injEq,Prod.mk.injEq]at hf;obtain⟨rfl,rfl,rfl⟩:=hf;grind [DV.toV,DC.toC]
          ·cases hf
         refine DL.inline (sk o.dst) hop adK rfl (s:=(st.toSt.args true c.args.toList).1) (vs:=Be vs) (by rw [<-a3]) a2 hcv abh hfn apM rfl (rs:=fn.results.toList) (by simp) ?_;grind [Ph,Vm,dl]
       | true=>
         have hcv:st.toSt.ev x= .c (.bmv f (Av cs)):=by
          rw [atO];unfold Wy at hf;split at hf
          ·simp at hf
          ·rename_i b' f' cs' he;simp only [injEq,Prod.mk.injEq]at hf;obtain⟨rfl,rfl,rfl⟩:=hf;grind [DV.toV,DC.toC]
          ·cases hf
         refine DL.aoy (sk o.dst) hop adK rfl (s:=(st.toSt.args true c.args.toList).1) (vs:=Be vs) (by rw [<-a3]) a2 hcv abh hfn apM rfl (rs:=fn.results.toList) (by simp) ?_;grind [Ph,Vm,dl]
      ·cases hr
     ·cases hr
    ·cases hr
   ·cases hr
  ·cases hr
 ·cases hr
theorem yT {P:Program} {I:World->Prop} {ops:Array Oper} {PK:St->Prop} {A B:St} (h:Wk A B): ∀ {l:List Oper},TV P I ops l B PK->TV P I ops l A PK
 | [],⟨s,h1,h2⟩=>⟨s,h.trans h1,h2⟩
 | _::_,⟨s,h1,h2⟩=>⟨s,h.trans h1,h2⟩
theorem sn (sh:Iy) {H:Ax T} {st:Af T} (hw:AI H st):B8 st.toSt (sh.base st).toSt :=by
 refine⟨?_,fun i=>?_,fun e he=>?_,fun _=>?_,⟨rfl,fun i=> .inr rfl⟩,rfl⟩
 ·show (AE _ _).length =(AE _ _).length;rw [Bw,Bw];rfl
 ·show (AE st.m (HF sh.ks st.tm)).getD i .undef = .undef \/(AE st.m (HF sh.ks st.tm)).getD i .undef =(AE st.m st.tm).getD i .undef;rw [L8,L8];split
  ·rw [Pd];split
   ·grind
   grind [DV.toV]
  grind
 ·obtain⟨d,hd,rfl⟩:=mem_map.1 he;exact mem_map.2 ⟨d,(HG sh.ke st.so).1.subset hd,rfl⟩
 ·exact FQ (Iy.afD sh hw).ok
theorem vl {A B:St} (h:B8 A B) (d:Option Nat) (x:V):B8 (A.put d x) (B.put d x):=by
 cases d with
 | none=>exact h
 | some d=>
   refine⟨by simp [St.put,h.len],fun i=>?_,h.so,h.nd,h.gh,h.pre⟩;have hl:=h.len;have:=h.tm i;simp only [St.put,List.getD_eq_getElem?_getD,getElem?_set,hl]at this ⊢;grind
theorem vm {H:Ax T} {st:Af T} {ops:Array Oper} {o:Oper} {key:List GL} {d:Nat} (hw:AI H st) (h:dgd ops o st=some (key,d)): ∃ j want,o.guard=some (j,want)/\o.dst=some d/\Ia st.toSt ops j want=some (Bb key)/\FE H st.nx key:=by
 unfold dgd at h;split at h
 ·rename_i j want d' hg hd;split at h
  ·rename_i aEg hk;simp only [injEq,Prod.mk.injEq]at h;obtain⟨rfl,rfl⟩:=h;grind [Ot]
  ·cases h
 ·cases h
theorem p7 (abz:kh P I rec) (il:Hl): ∀ (l:List Oper) (k:Nat) (st:Af T) (H:Ax T),AI H st-> ∀ (R:Type) (K:Af T->Option R) (r:R),Yt Γ rec ops il l k st R K=some r->
 ∀ PK:St->Prop,(∀ H' a_,Nx H st H' a_->a_.pre=st.pre->K a_=some r->PK a_.toSt)->TV P I ops l st.toSt PK
 | [],k,st,H,hw,R,K,r,hr,PK,hK=>by simp only [Yt]at hr;obtain⟨s,⟨⟨H1,n1⟩,p1,w1⟩,hr⟩:=GU k il hw R _ r hr;exact⟨s.toSt,w1,hK H1 s n1 p1 hr⟩
 | o::rest,k,st0,H,hw,R,K,r,hr,PK,hK=>by
   simp only [Yt]at hr;obtain⟨st,⟨⟨H0,n0⟩,p0,w0⟩,hr⟩:=GU k il hw R _ r hr;refine⟨st.toSt,w0,?_⟩;replace hK: ∀ H' a_,Nx H0 st H' a_->a_.pre=st.pre->K a_=some r->PK a_.toSt:=fun H' s n p q=>hK H' s (n0.trans n) (p.trans p0) q;replace hw:=n0.ok;have nxt: ∀ (H1:Ax T) (a_:Af T),Nx H0 st H1 a_->a_.pre=st.pre->Yt Γ rec ops il rest (k+1) a_ R K=some r->TV P I ops rest a_.toSt PK:=fun H1 a_ n1 p1 q=>
    p7 abz il rest (k+1) a_ H1 n1.ok R K r q PK fun H' s n p q=>hK H' s (n1.trans n) (p.trans p1) q
   split at hr
   ·obtain⟨a_,⟨⟨H1,n1⟩,p1,w1⟩,hr⟩:=fh hw o R _ r hr;grind
   ·rename_i sp _;obtain⟨a_,⟨⟨H1,n1⟩,p1,w1⟩,hr⟩:=pZ hw o sp R _ r hr;grind
   ·rename_i h _;obtain⟨g1,g2⟩:=RO (PK:=fun s=>TV P I ops rest s PK) abz hw hr fun H' s n p q=>nxt H' s n p q;simp only [bY,g1];exact .inl g2
   ·rename_i sh h _;unfold jn at hr;obtain⟨g1,g2⟩:=RO (PK:=fun s=> ∃ s',Wk s s'/\TV P I ops rest s' PK) abz hw hr fun H' s n p q=>by
     split at q
     ·rename_i v hg;dsimp only at q;split at q
      ·rename_i s' hi;obtain⟨H2,n2⟩:=Iy.aeq hw (EG sh.ts v) hi;have hp:s'.pre=st.pre:=by
        unfold Iy.inst at hi;split at hi
        ·rename_i s1 us h1;split at hi
         ·rename_i s2 us2 h2;injection hi with hi;subst hi;obtain⟨⟨Ha,na⟩,nb,_,_,np,_⟩:=K9 (sh.afD hw) (EG sh.ts v) h1;obtain⟨_,_,_,mp,_⟩:=MW na nb h2;rw [mp,np];rfl
         ·cases hi
        ·cases hi
       grind [Iy.ad7]
      ·cases q
     ·cases q
    simp only [bY,g1];refine .inl ?_;intro F a w G Q hI hR;refine Oper.wp_mono (fun _ _ ⟨_,G',⟨s',hwk,hp⟩,hR'⟩=>?_) (g2 F a w G Q hI hR);obtain⟨G'',q⟩:=hwk _ _ _ _ hR';grind
   ·rename_i ks ke kd h _;split at hr
    ·rename_i key d hfk hdg;unfold jn at hr;dsimp only at hr;obtain⟨j,want,e1,e2,e3,e4⟩:=vm hw hdg;have main: ∀ x:Pa T.den kd,Yt Γ rec ops il rest (k+1) (((kpt ks ke).base st).put (some d) (.g key (.c (.k kd x)))) R K=some r->TV P I ops rest (((kpt ks ke).base st).put (some d) (.g key (.c (.k kd x)))).toSt PK:=fun x q=>by have nb:=Iy.afD (kpt ks ke) hw;obtain⟨H2,n2⟩:=Me (st:=(kpt ks ke).base st) nb.ok e4 (some d) (v:= .c (.k kd x)) (by grind [DV.ok,DC.ok]);exact nxt H2 _ (nb.trans n2) (by rw [AU];rfl) q
     simp only [bY,e1,e3];refine .inl ⟨fun hc=> .inl ?_,fun hc=>?_⟩
     ·rw [if_pos hc]at hr;obtain⟨⟨Hu,nu⟩,_,hu⟩:=M4 (l:=vk o) hc hw e4;obtain⟨_,g2⟩:=RO (PK:=fun s=> ∃ s',Wk s s'/\TV P I ops rest s' PK) abz nu.ok hr fun H' b n' _ q=>by
       have n:=nu.trans n';split at q
       ·rename_i v0 x hg hx;refine⟨_,?_,main x q⟩;have hwk:=Iy.ad7 hw n hg (s1:=(kpt ks ke).base st) rfl;intro F a w G hR;obtain⟨G',q'⟩:=hwk F a w G hR;refine⟨G',?_⟩;rw [Af.k_];refine q'.aeS ?_;have hsl:Ab w G (b.toSt.get d) (a.tmps.getD d Go.undef):=hR.w_ d;rw [b.aaZ d,pI hx]at hsl;have hf:(Bk T.enc kd x).flat =true:=by cases kd<;>first | rfl | cases hfk
        simp_all [DV.toV,DC.toC,Ab,AY]
       ·cases q
      intro F a w G Q hI hR;have g3:o.wp P a w (ir F fun s=> ∃ s',Wk s s'/\TV P I ops rest s' PK) Q:=g2 F a w G Q hI (hu F a w G hR);grind [Oper.wp_mono,yT]
     ·rw [if_neg (by rw [hc];simp)]at hr;grind [vl,sn,Af.k_,DV.toV]
    ·cases hr
end
abbrev M5:Iy:=⟨[],[],[],[]⟩
abbrev Bd:Sg:= .v (.k (.int .i64))
abbrev GJ:Sg:= .v (.k .bool)
abbrev BS (n:Nat):Nat×VSp:=(n, .c Bd)
abbrev JL (n:Nat):Nat×VSp:=(n, .c GJ)
abbrev sq (n:Nat):Nat×VSp:=(n, .c (.v (.k .str)))
end Go.PL
namespace Go.PL
open Go Go.RowKit
variable {T:Bm}
def fnl:DV T->Bool
 | .c (.k k _)=>Pb k
 | .c (.c (.j_ _))=>true
 | _=>false
theorem AcC {v:DV T} (h:fnl v=true) {w:World} {G:AF} {a b:Value} (ha:Ab w G v.toV a) (hb:Ab w G v.toV b):a=b:=by
 unfold fnl at h;split at h
 ·rename_i k x;have hf:(Bk T.enc k x).flat =true:=by cases k<;>first | rfl | cases h
  grind [DV.toV,DC.toC,Ab,AY]
 all_goals grind [DV.toV,DC.toC,Ab,Ae]
structure PE where
 i:Nat
 d:Nat
 x:Operand
 id:Ah
 off:Nat
 ag:Bool
 n:Nat
 te:Nat
 ts:Nat
def VN (P:Program) (ops:Array Oper) (lz:List Nat) (H:Ax T) (nx:Nat) (q:PE):Prop:=
 ∃ o t cs,ops[q.i]? =some o/\o.op= .load t q.x/\o.dst=some q.d/\KS P t=some (q.ag,q.n)/\q.te<nx/\q.ts<nx/\(H.e q.te).id =q.id/\(H.e q.te).x = .box cs/\
   F2 q.ag q.off q.n cs.length=true/\H.v q.ts=C8 q.ag q.off q.n cs/\(fnl (H.v q.ts)=true\/q.i∈lz)
theorem VN.nx {P:Program} {ops:Array Oper} {lz:List Nat} {H H':Ax T} {st a_:Af T} {q:PE} (h:VN P ops lz H st.nx q) (hn:Nx H st H' a_):VN P ops lz H' a_.nx q:=by obtain⟨o,t,cs,h1,h2,h3,h4,h5,h6,h7,h8,h9,h10,h11⟩:=h;have e1:=(hn.ext q.te h5).2;have e2:=(hn.ext q.ts h6).1;exact⟨o,t,cs,h1,h2,h3,h4,lt_of_lt_of_le h5 hn.le,lt_of_lt_of_le h6 hn.le,by grind,by grind,h9,by grind,by grind⟩
def sr (st:Af T) (q:PE):Bool:=match st.ev q.x,Hk st.so q.id,K6 st q.id with
 | .c (.c (.ptr id off)),some e,some _=>Bc id q.id&&(Nat.beq off q.off&&(Nat.beq e.tag q.te&&(Nat.beq (Xg st.tm q.d) (q.ts+1)&&Nat.blt q.d st.m)))
 | _,_,_=>false
theorem Vn {st:Af T} {id:Ah} {cs:List (DC T)} (h:K6 st id=some cs): ∃ e,Hk st.so id=some e/\e.x= .box cs:=by grind [K6,Af.look]
section
variable {H:Ax T} {P:Program} {st:Af T}
theorem dm {t:TypeId} {ag:Bool} {n:Nat} {id:Ah} {off:Nat} {cs:List (DC T)} (hw:AI H st) (ht:KS P t=some (ag,n)) (hb:K6 st id=some cs) (ho:F2 ag off n cs.length=true):
 (C8 ag off n cs).ok H st.nx/\(DW P t st.toSt (.c (.ptr id off))).1/\(DW P t st.toSt (.c (.ptr id off))).2=(C8 (T:=T) ag off n cs).toV :=by
 have hd:=Xs (P:=P) (t:=t) (key:=[]) (v:=(.c (.c (.ptr id off)):DV T)) hw (by grind [DV.ok,DC.ok]) (DV T) some (C8 ag off n cs) (by simp only [ju,ht,hb,ho];rfl);obtain⟨v,h1,h2⟩:=hd;injection h2 with h2;subst h2;have:=h1 rfl;grind [DV.toV,DC.toC]
theorem Wz (hw:AI H st) {ops:Array Oper} {lz:List Nat} {q:PE} (hq:VN P ops lz H st.nx q) (h:sr st q=true) {o:Oper} (ho:ops[q.i]? =some o) {F:Fr} {a:Act} {w:World} {G:AF} (hR:R F st.toSt a w G):
 o.dst=some q.d/\ ∃ v,(q.i∈lz\/v=a.tmps.getD q.d Go.undef)/\Ab w G (st.toSt.tm.getD q.d .undef) v/\ ∀ w',C6 w w'->(execOp a.eval o).run P w'= .ok (.value v) w':=by
 obtain⟨o',t,cs,h1,h2,h3,h4,h5,h6,h7,h8,h9,h10,h11⟩:=hq;rw [h1]at ho;injection ho with ho;subst ho;unfold sr at h;split at h
 ·rename_i id off e cs' hev hlk hbx;simp only [and_eq_true,beq_eq,AP,blt_eq]at h;obtain⟨k1,k2,k3,k4,k5⟩:=h;subst k1 k2;obtain⟨e',l1,l2⟩:=Vn hbx;rw [hlk]at l1;injection l1 with l1;subst l1;have hm:=(C0 hlk).1;have he:=(hw.so e hm).2.1;rw [k3]at he;rw [he,l2]at h8;injection h8 with h8;subst h8;obtain⟨m1,m2,m3⟩:=dm hw h4 hbx h9;have agu:=st.abD q.x;rw [hev]at agu;have aq1:st.toSt.arg true q.x=(True, .c (.ptr q.id q.off)):=by grind [St.arg,DV.toV,DC.toC]
  have hs:(D7 P st.toSt true o'.op).1:=by rw [h2];show (rd P st.toSt true (.load t q.x)).1;simp_all [rd,Q_]
  obtain⟨v,q1,q2⟩:=Gn hR rfl hs;have e2:(D7 P st.toSt true o'.op).2=(C8 (T:=T) q.ag q.off q.n cs').toV :=by rw [h2];show (rd P st.toSt true (.load t q.x)).2=_;grind [rd,Q_]
  rw [e2]at q1;obtain⟨_,hv⟩:=Xh hw.tm k4;have atM:st.get q.d=C8 q.ag q.off q.n cs':=by unfold Af.get;rw [show Nat.blt q.d st.m=true by simpa using k5];grind
  have hsl:=hR.w_ q.d;have hg:st.toSt.tm.getD q.d .undef =(st.get q.d).toV :=st.aaZ q.d;grind [AcC]
 ·cases h
theorem vn (hw:AI H st) {ops:Array Oper} {lz:List Nat} {q:PE} (hq:VN P ops lz H st.nx q) (h:sr st q=true) {o:Oper} (ho:ops[q.i]? =some o) (hc:DZ o=1) {F:Fr} {a:Act} {w:World} {G:AF} (hR:R F st.toSt a w G):rK P (q.i∈lz) o a w:=by obtain⟨h1,v,h2,h3,h4⟩:=Wz hw hq h ho hR;intro d hd;rw [h1]at hd;injection hd with hd;subst hd;exact⟨v,h2,(by grind)⟩
theorem vp {I:World->Prop} (hw:AI H st) {o:Oper} (hk:BH o.op= .rd) {v:DV T} (hv:Rd H P st [] o.op v):Yld P I o st.toSt (st.put o.dst v).toSt :=fun F a w G hI hR=>by obtain⟨h1,h2,h3⟩:=hv rfl;obtain⟨u,q1,q2⟩:=Gn hR rfl h2;change Ab w G (D7 P st.toSt true o.op).2 u at q1;rw [show (D7 P st.toSt true o.op).2=v.toV from h3]at q1;exact⟨u,G,q2,by rw [Af.k_];exact hR.put q1⟩
end
def AcD (P:Program) (z:Bool) (o:Oper) (i:Nat) (st:Af T):Option (Af T×PE):=match o.op,o.dst with
 | .load t x,some d=>match KS P t,st.ev x with
   | some (ag,n), .c (.c (.ptr id off))=>match K6 st id,Hk st.so id with
     | some cs,some e=>match F2 ag off n cs.length&&(fnl (C8 ag off n cs)||z)with
       | true=>some (st.put (some d) (C8 ag off n cs),⟨i,d,x,id,off,ag,n,e.tag,st.nx⟩)
       | false=>none
     | _,_=>none
   | _,_=>none
 | _,_=>none
theorem yU {H:Ax T} {P:Program} {I:World->Prop} {st a_:Af T} (hw:AI H st) {ops:Array Oper} {lz:List Nat} {z:Bool} {o:Oper} {i:Nat} {q:PE} (hz:z=true->i∈lz) (hi:ops[i]? =some o) (h:AcD P z o i st=some (a_,q)):
 ∃ H',Nx H st H' a_/\a_.pre=st.pre/\Yld P I o st.toSt a_.toSt/\VN P ops lz H' a_.nx q/\q.i=i:=by
 unfold AcD at h;split at h
 ·rename_i t x d hop hd;split at h
  ·rename_i ag n id off ht hev;split at h
   ·rename_i cs e hbx hlk;split at h
    ·rename_i hb;simp only [and_eq_true,or_eq_true]at hb;injection h with h;injection h with h1 h2;subst h1 h2;obtain⟨m1,m2,m3⟩:=dm hw ht hbx hb.1;have he:=Da.afk H st.nx (C8 (T:=T) ag off n cs);obtain⟨e',l1,l2⟩:=Vn hbx;rw [hlk]at l1;injection l1 with l1;subst l1;obtain⟨k1,k2,k3⟩:=hw.so e (C0 hlk).1;have hnx:Nx H st (H.afk st.nx (C8 ag off n cs)) (st.put (some d) (C8 ag off n cs)):=by
      obtain⟨H',hn⟩:=Af.aai hw (some d) m1;refine⟨he,by simp [Af.put],?_,?_,?_,hw.nd⟩
      ·intro s t' w' hm;simp only [Af.put,mem_cons,Prod.mk.injEq]at hm ⊢;rcases hm with ⟨rfl,rfl,rfl⟩ | hm
       ·exact⟨Nat.lt_succ_self _,by simp [Ax.afk],DV.acI he (le_succ _) m1⟩
       ·exact B3 he (le_succ _) hw.tm s t' w' hm
      ·exact fun f hf=>B3 he (le_succ _) (hw.gh f hf)
      ·exact FG he (le_succ _) hw.so
     refine⟨_,hnx,AU _ _ _,?_,⟨o,t,cs,hi,hop,hd,ht,lt_of_lt_of_le k1 hnx.le,by simp [Af.put],?_,?_,hb.1,by simp [Ax.afk],?_⟩,rfl⟩
     ·have hrd:Rd H P st [] o.op (C8 ag off n cs):=fun _=>by
       have agu:=st.abD x;rw [hev]at agu;have aq1:st.toSt.arg (Bb []) x=(True, .c (.ptr id off)):=by grind [St.arg,DV.toV,DC.toC]
       rw [hop];refine⟨m1,?_,?_⟩
       ·show (rd P st.toSt (Bb []) (.load t x)).1;simp_all [rd,Q_]
       ·show (rd P st.toSt (Bb []) (.load t x)).2=_;grind [rd,Q_]
      have:=vp (I:=I) hw (by rw [hop];rfl) hrd;grind
     ·rw [(hnx.ext e.tag k1).2,k2];exact(C0 hlk).2.1
     all_goals grind [Ax.afk]
    ·cases h
   ·cases h
  ·cases h
 ·cases h
end Go.PL
set_option linter.all false
namespace Go.PL
open Go Go.RowKit
def Fr.afz (F:Fr) (b:Nat):Fr:=⟨F.w0,fun x=>F.av x/\x ≠ b,fun x=>F.old x\/x=b,F.I,F.gv⟩
def vt (F:Fr) (old:Nat->Prop):Prop:= ∀ w':World,F.w0.heap.size<=w'.heap.size->(∀ x,x<F.w0.heap.size-> ¬old x->w'.heap[x]? =F.w0.heap[x]?)->F.I w'
section
variable {F:Fr} {st:St} {a:Act} {w:World} {G:AF}
theorem R.unnamed (h:R F st a w G) {b:Nat} (hav:F.av b) (j:Ah):G.o_ j ≠ some b:=fun q=>by
 rcases h.new j b q with k | k
 ·have:=h.aaJ b hav;omega
 ·exact h.aae b k hav
theorem R.avW (h:R F st a w G) {b:Nat} (hav:F.av b) (hinv:vt F (fun x=>F.old x\/x=b)) (e:Au) (nv:Option Value) (hp:e.pu=true->Am e.cs=true)
 (he:Ba w (Ci (F.afz b) G e.id (some b) nv) (e.kill e.id)):R (F.afz b) (st.new e) a w (Ci (F.afz b) G e.id (some b) nv):=by
 have hun:=h.unnamed hav;have hwr:G.wr b:=(h.wr b).2 (.inl hav);have hbw:b<w.heap.size:=lt_of_lt_of_le (h.aaJ b hav) h.v_;have hk:Cu G (Ci (F.afz b) G e.id (some b) nv) w w:=by
  refine⟨le_refl _,fun _ _ _=>rfl,fun x hx hw=>?_,fun _ _ _ _=>Co.same rfl⟩;simp only [Ci,Fr.afz]at hw;rcases hw with hw | ⟨i,hi⟩
  ·exact(h.wr x).2 (.inl hw.1)
  ·split at hi
   ·grind
   ·exact(h.wr x).2 (.inr ⟨i,hi⟩)
 refine {
  dfr:=h.dfr
  size:=by simp [St.new,St.kill,h.size]
  w_:=fun i=>?_
  I_:=?_
  store:=fun e' he'=>?_
  deep:=fun e' he'=>?_
  y_:=fun e' he'=>?_
  nodup:=?_
  inj:=fun i j x hi hj=>?_
  lt:=fun i x hi=>?_
  new:=fun i x hi=>?_
  wr:=fun _=>Iff.rfl
  aaJ:=fun x hx=>h.aaJ x hx.1
  inv:=hinv
  aae:=fun x hx hy=>?_
  os:=h.os,tape:=h.tape,output:=h.output,v_:=h.v_
  ext:=fun x hx ho=>h.ext x hx fun q=>ho (.inl q)}
 ·simp only [St.new,St.kill];rw [Gl (by simp [Es,V.p_])];exact Ab.mono hk _ _ (by grind [Du,SM]) (SP (h.w_ i))
 ·simp only [St.new,St.kill];exact As.mono hk _ _ (by grind [Du,Qc]) (Qb h.I_)
 ·simp only [St.new,St.kill]at he';rcases JB he' with ⟨rfl,_⟩ | he'
  ·exact he
  ·simp only [mem_map,mem_filter,and_eq_true]at he';obtain⟨d,⟨hd,Tg,_⟩,rfl⟩:=he';have ac7:d.id ≠ e.id:=by grind
   exact CF hk (Du (F:=F.afz b) (fun i hi he'=>by subst he';rw [iB (h.y_ d hd)]at hi;cases hi)) (by grind [Ci,Au.P_]) (fun _ _=>rfl) (bP (h.store d hd))
 ·simp only [St.new,St.kill]at he';rcases JB he' with ⟨rfl,h1,h2⟩ | he'
  ·exact By.an_ h1 h2
  ·simp only [mem_map,mem_filter,and_eq_true]at he';obtain⟨d,⟨hd,Tg,hmd⟩,rfl⟩:=he';have ac7:d.id ≠ e.id:=by grind
   have hmk:Ep (d.kill e.id).id =true-> ∀ k,BR k (d.kill e.id).id ≠ e.id:=by grind [Au.P_,iv]
   exact By.mono hk (by grind [Ci,Au.P_]) (by grind [Ci]) (fun _ _=>rfl) (fun _ _ _ _=>rfl) (h.deep d hd).kill
 ·simp only [St.new,St.kill]at he';rcases JB he' with ⟨rfl,_⟩ | he'
  ·exact O2 hp
  ·simp only [mem_map,mem_filter]at he';obtain⟨d,⟨hd,Tg⟩,rfl⟩:=he';exact O2 (h.y_ d hd)
 ·have afW:List.Sublist (((st.new e).so.map (·.id))) (e.id::((st.so.filter (fun d=>d.id != e.id&& !(CM e.id&&Ep d.id))).map (·.id))):=by
   simp only [St.new,St.kill,Ra];split
   all_goals simp_all [Function.comp_def,Au.P_]
  refine List.Sublist.nodup afW (nodup_cons.2 ⟨by grind,?_⟩);exact List.Sublist.nodup (by grind [filter_sublist]) h.nodup
 ·simp only [Ci]at hi hj;split at hi<;>split at hj
  ·simp_all
  ·grind
  ·grind
  ·exact h.inj i j x hi hj
 ·simp only [Ci]at hi;split at hi
  ·grind
  ·exact h.lt i x hi
 ·simp only [Ci]at hi;split at hi
  ·injection hi with hi;exact .inr (.inr hi.symm)
  ·exact(h.new i x hi).imp (fun q=>q) .inl
 ·rcases hx with q | q
  ·exact h.aae x q hy.1
  ·exact hy.2 q
def Fr.take (F:Fr) (w1:World) (b:Nat) (G:AF):Fr:=⟨w1,fun x=>F.av x\/x=b,fun x=> ∃ i,G.o_ i=some x,F.I,F.gv⟩
theorem R.taken (h:R F st a w G) {w1:World} (ho:N3 w w1) (hs:C6 w w1) {b:Nat} (hb:b=w.heap.size) (hlt:b<w1.heap.size) (hinv:vt (F.take w1 b G) (F.take w1 b G).old) {d:Nat} {v:Value} (hd:st.get d= .undef):
 ∃ G1,R (F.take w1 b G) st (a.put (some d) v) w1 G1:=by
 have hk:Cu G (⟨G.o_,G.own,fun x=>(F.av x\/x=b)\/ ∃ i,G.o_ i=some x⟩:AF) w w1:=by
  refine⟨hs.size,fun x hx _=>hs.block x hx,fun x hx hw=>?_,fun i x h1 _=>Co.same (hs.block x (h.lt i x h1))⟩;rcases hw with (hw | hw) | hw
  ·exact(h.wr x).2 (.inl hw)
  ·omega
  ·exact(h.wr x).2 (.inr hw)
 have ag: ∀ S:Ah->Prop,JR S G (⟨G.o_,G.own,fun x=>(F.av x\/x=b)\/ ∃ i,G.o_ i=some x⟩:AF):=fun _ _ _=>⟨rfl,rfl⟩;refine⟨⟨G.o_,G.own,fun x=>(F.av x\/x=b)\/ ∃ i,G.o_ i=some x⟩,{
  dfr:=h.dfr
  size:=by simp [Act.put,h.size]
  w_:=fun i=>?_
  I_:=As.mono hk _ _ (ag _) h.I_
  store:=fun e he=>CF hk (ag _) ⟨rfl,rfl⟩ (fun x hx=>hs.block x (h.lt _ x hx)) (h.store e he)
  deep:=fun e he=>By.mono hk ⟨rfl,rfl⟩ (by grind) (fun x hx=>hs.block x (h.lt _ x hx)) (fun _ _ x hx=>hs.block x (h.lt _ x hx)) (h.deep e he)
  y_:=h.y_,nodup:=h.nodup,inj:=h.inj
  lt:=fun i x hi=>lt_of_lt_of_le (h.lt i x hi) hs.size
  new:=fun i x hi=> .inr ⟨i,hi⟩
  wr:=fun _=>Iff.rfl
  aaJ:=fun x hx=>?_
  inv:=hinv
  aae:=fun x ⟨i,hi⟩ hx=>?_
  os:=rfl,tape:=rfl,output:=rfl,v_:=le_refl _
  ext:=fun _ _ _=>rfl}⟩
 ·by_cases hi:d=i
  ·subst hi;have:st.tm.getD d .undef = .undef :=hd;grind [Ab]
  ·have e:(a.put (some d) v).tmps.getD i Go.undef=a.tmps.getD i Go.undef:=by simp_all [Act.put]
   rw [e];exact Ab.mono hk _ _ (ag _) (h.w_ i)
 ·rcases hx with hx | hx
  ·exact lt_of_lt_of_le (h.aaJ x hx) (le_trans h.v_ hs.size)
  ·show x<w1.heap.size;omega
 ·rcases hx with hx | hx
  ·exact h.unnamed hx i hi
  ·have:=h.lt i x hi;omega
end
structure Ld (F0 F:Fr) (D:List (Nat×Nat)):Prop where
 alV:F.I=F0.I
 gv:F.gv=F0.gv
 av: ∀ x,F.av x↔F0.av x\/ ∃ i,(i,x)∈D
 size:F0.w0.heap.size<=F.w0.heap.size
 kept: ∀ x,x<F0.w0.heap.size-> ¬F0.old x-> ¬F.old x/\F.w0.heap[x]? =F0.w0.heap[x]?
 old: ∀ x,F.old x->F0.w0.heap.size<=x\/F0.old x
 new: ∀ p∈D,F0.w0.heap.size<=p.2
 os:F.w0.os=F0.w0.os
 tape:F.w0.tape=F0.w0.tape
 output:F.w0.output=F0.w0.output
theorem Ld.start (F:Fr):Ld F F []:=⟨rfl,rfl,fun x=>by simp,le_refl _,(by grind),fun _ h=> .inr h,(by grind),rfl,rfl,rfl⟩
def vu (F:Fr):Prop:=vt F F.old
section
variable {F0 F:Fr} {D:List (Nat×Nat)} {st:St} {a:Act} {w:World} {G:AF}
theorem Ld.back (t:Ld F0 F []) (hi:vu F0) (hd: ∀ x,F0.old x-> ¬F0.av x) (hl: ∀ x,F0.av x->x<F0.w0.heap.size) (h:R F st a w G):R F0 st a w G where
 dfr:=h.dfr
 size:=h.size
 w_:=h.w_
 I_:=by rw [<-t.gv];exact h.I_
 store:=h.store
 deep:=h.deep
 y_:=h.y_
 nodup:=h.nodup
 inj:=h.inj
 lt:=h.lt
 new:=fun i x hx=>by
  rcases h.new i x hx with q | q
  ·exact .inl (le_trans t.size q)
  ·exact t.old x q
 wr:=fun x=>by rw [h.wr,t.av];simp
 aaJ:=hl
 inv:=hi
 aae:=hd
 os:=h.os.trans t.os
 tape:=h.tape.trans t.tape
 output:=h.output.trans t.output
 v_:=le_trans t.size h.v_
 ext:=fun x hx ho=>by obtain⟨k1,k2⟩:=t.kept x hx ho;exact(h.ext x (by grind) k1).trans k2
theorem Ld.as8 (t:Ld F0 F D) (hi:vu F0) {old:Nat->Prop} (ho: ∀ x,x<F0.w0.heap.size-> ¬F0.old x-> ¬old x):vt F old:=fun w' hs hw=>by rw [t.alV];exact hi w' (le_trans t.size hs) fun x hx hx2=>(hw x (lt_of_lt_of_le hx t.size) (ho x hx hx2)).trans (t.kept x hx hx2).2
end
end Go.PL
set_option linter.all false
namespace Go.PL
open Go Go.RowKit
variable {T:Bm}
def fE:C->Bool
 | .int .. =>true
 | .bool _=>true
 | .str _=>true
 | .ab_ =>true
 | .aag =>true
 | .L_ =>true
 | .fn _=>true
 | .sl 0 []=>true
 | _=>false
theorem vv {c:C} (h:fE c=true) {w w':World} {G G':AF} {v:Value} (hr:Ae w G c v):Ae w' G' c v:=by
 unfold fE at h;split at h
 all_goals simp_all [Ae]
theorem kj {w w':World} {G G':AF}: ∀ {cs:List C} {vs:List Value},cs.all fE=true->Ai w G cs vs->Ai w' G' cs vs
 | [],[],_,_=>by simp [Ai]
 | [],_::_,_,h=>by simp [Ai]at h
 | _::_,[],_,h=>by simp [Ai]at h
 | c::cs,v::vs,h,hr=>by simp only [all_cons,and_eq_true]at h;simp only [Ai]at hr ⊢;exact⟨vv h.1 hr.1,kj h.2 hr.2⟩
theorem vw {c:C} (h:fE c=true) (i:Ah):c.p_ i=false:=by
 unfold fE at h;split at h
 all_goals first
  | rfl
  | grind
theorem kk: ∀ {cs:List C},cs.all fE=true-> ∀ i,BU i cs=false
 | [],_,_=>rfl
 | c::cs,h,i=>by simp only [all_cons,and_eq_true]at h;simp only [BU,vw h.1,kk h.2,Bool.or_self]
def vx (o:Oper):Bool:=match o.guard,o.dst,o.op with
 | none,some _, .alloc _=>true
 | none,some _, .buildSlice _ _ ps=>ps.toList.all fun p=>BN p.2
 | _,_,_=>false
def TW:DX T->List C
 | .box cs=>Av cs
 | .row E l=>l.flatMap (T.enc E)
 | .deep .. =>[]
def fF:DX T->Nat->Value
 | .row _ l,b=> .slice (some ⟨b,0,none⟩) l.length l.length
 | _,b=> .pointer (some ⟨b,0,none⟩)
def Yu:DX T->Ah->C
 | .row ..,id=> .j_ id
 | _,id=> .ptr id 0
def xt (P:Program) (st:Af T) (o:Oper):Option (DX T):=match o.op with
 | .alloc t=>match Xw P t with
   | some cs=>match (Av cs).all fE with
     | true=>some (.box cs)
     | false=>none
   | none=>none
 | .buildSlice t len ps=>match DR P t,HB st [] ps.toList with
   | some (E,n,_),some vs=>match Qr P E with
     | some z=>match U4 (fun i=>some (i*n,n)) ((List.replicate len z).flatMap id) (vs.map fun x=>(x.1,TA x.2))with
       | some cs=>match LF E len cs with
         | some l=>match (Nat.beq n (T.sz E)&&(Nat.beq z.length n&&(Nat.blt 0 n&&(Nat.ble (len*n) (2 ^ 24)&&Nat.beq cs.length (len*n)))))&&(Av cs).all fE with
           | true=>some (.row E l)
           | false=>none
         | none=>none
       | none=>none
     | none=>none
   | _,_=>none
 | _=>none
theorem RP {st a_:Af T}: ∀ {ps:List (Nat×Operand)},(ps.all fun p=>BN p.2)=true->HB st [] ps=HB a_ [] ps
 | [],_=>rfl
 | (i,x)::r,h=>by
   simp only [all_cons,and_eq_true]at h;have ih:=RP (st:=st) (a_:=a_) h.2;have hx:st.arg [] x=a_.arg [] x:=by
    cases x with
    | const v=>rfl
    | _=>cases h.1
   simp only [HB,ih,hx]
theorem TX {P:Program} {st a_:Af T} {o:Oper} (h:vx o=true):xt P st o=xt P a_ o:=by grind [vx,xt,RP]
structure AcE (x:DX T) (arr:Array Value) (Tt:TypeId):Prop where
 ind:(TW x).all fE=true
 rel: ∀ w G,Ai w G (TW x) arr.toList
 row: ∀ E l,x= .row E l->Tt=E/\arr.size=l.length*T.sz E/\l.length<=maxLen
 nd: ∀ E n l h,x ≠ .deep E n l h
 ok:x.ok
theorem yV {P:Program} {H:Ax T} {st:Af T} {o:Oper} {x:DX T} (hw:AI H st) (h:xt P st o=some x) {F:Fr} {a:Act} {w:World} {G:AF} (hR:R F st.toSt a w G):
 ∃ arr Tt,(execOp a.eval o).run P w= .ok (.value (fF x w.heap.size)) (w.alloc (.cells arr Tt))/\AcE x arr Tt:=by
 unfold xt at h;split at h
 ·rename_i t hop;split at h
  ·rename_i cs hz;split at h
   ·rename_i hi;injection h with h;subst h;obtain⟨z1,z2⟩:=Of hz;obtain⟨i,z,hi1,hzv,hc⟩:=Qd z1;refine⟨z.cells,t,?_,hi,fun w G=>KZ hc,(by grind),(by grind),z2⟩;simp_all [execOp,Instr.alloc,adU,newVar,newRow,fF]
   ·cases h
  ·cases h
 ·rename_i t len ps hop;split at h
  ·rename_i E n by' vs abg hp;split at h
   ·rename_i z hz;split at h
    ·rename_i cs hf;split at h
     ·rename_i l hl;split at h
      ·rename_i hg;injection h with h;subst h;simp only [and_eq_true,beq_eq,blt_eq,ble_eq]at hg;obtain⟨⟨g1,g2,g3,g4,g5⟩,g6⟩:=hg;subst g1;obtain⟨p1,p2,p3⟩:=Gx (key:=[]) hw (fun _ hl=>by cases hl) rfl hp;obtain⟨z1,z2⟩:=Ix hz;obtain⟨f1,_⟩:=Kl hf;rw [Qt z (by omega),XL]at f1;change (st.toSt.parts true ps.toList).1 at p2;change (st.toSt.parts true ps.toList).2=jz vs at p3;rw [<-p3]at f1;obtain⟨hlen,r,hr⟩:=Ex hl;have hrn:r=[]:=by have:=congrArg List.length hr;grind [AO,BO,AS,List.length_eq_zero_iff]
       subst hrn;rw [List.append_nil]at hr;obtain⟨aa5,q1,q2,q3,q4,q5⟩:=J4 hR abg z1 f1 p2 (by rw [AO];exact g2) g3 g4;refine⟨aa5,E,?_,by grind [TW],(by grind [TW,kj]),fun E' l' q=>?_,(by grind),trivial⟩
       ·simp_all [execOp,fF]
       grind
      ·cases h
     ·cases h
    ·cases h
   ·cases h
  ·cases h
 ·cases h
theorem su {H:Ax T} {st s:Af T} {x:DX T} {arr:Array Value} {Tt:TypeId} (hw:AI H st) (hx:AcE x arr Tt) {F:Fr} {a:Act} {w:World} {G:AF} (hR:R F st.toSt a w G) {b:Nat} (hav:F.av b) (hinv:vt F (fun y=>F.old y\/y=b))
 (hh:w.heap[b]? =some (.cells arr Tt (0,0))) {d:Nat} (hv:a.tmps.getD d Go.undef=fF x b) (hs:st.new (d::st.pre) x=some s): ∃ G',R (F.afz b) (s.put (some d) (.c (.c (Yu x (d::st.pre))))).toSt a w G':=by
 obtain⟨_,ahh,_⟩:=Af.aca hw hx.ok hs;have A_:(⟨d::st.pre,0,x⟩:DE T).toE.cs =TW x:=by
  unfold DE.toE;cases x with
  | box cs=>rfl
  | row E l=>rfl
  | deep E n l h=>exact absurd rfl (hx.nd E n l h)
 have hk:((⟨d::st.pre,0,x⟩:DE T).toE.kill (d::st.pre))=(⟨d::st.pre,0,x⟩:DE T).toE :=Au.adt (by
  simp only [Au.fre,or_eq_true,not_eq_true'];right;rw [A_];exact kk hx.ind _)
 have hr0: ∀ G',Al w G' (TW x) b 0:=fun G'=>Al.aau (hx.rel w G') (BE hh (rest:=[]) (by grind));have key: ∃ nv:Option Value,(∀ G',Ba w (Ci (F.afz b) G' (d::st.pre) (some b) nv) (⟨d::st.pre,0,x⟩:DE T).toE)/\(∀ G',Ae w (Ci (F.afz b) G' (d::st.pre) (some b) nv) (Yu x (d::st.pre)) (fF x b)):=by
  cases x with
  | box cs=>
    refine⟨none,fun G'=>iD rfl ⟨b,Tt,arr,by simp [Ci,DE.toE],hh,?_,hr0 _⟩,fun G'=>?_⟩
    ·have:(Av cs).length =arr.toList.length:=(hx.rel w G).length;show arr.size=(Av cs).length;grind
    ·simp only [Yu,fF,Ae];exact⟨b,by simp [Ci],rfl⟩
  | row E l=>
    obtain⟨e1,e2,e3⟩:=hx.row E l rfl;refine⟨some (.slice (some ⟨b,0,none⟩) l.length l.length),fun G'=>JZ rfl ⟨?_,_,by simp [Ci,DE.toE], .inr ⟨b,l.length,arr,rfl,by simp [Ci,DE.toE],by grind,le_refl _,e3,e2,hr0 _⟩⟩,fun G'=>?_⟩
    ·show (l.flatMap (T.enc E)).length =_;grind [BO,AS]
    ·simp only [Yu,fF,Ae];exact⟨by simp [Ci],rfl⟩
  | deep E n l h=>exact absurd rfl (hx.nd E n l h)
 obtain⟨nv,k1,k2⟩:=key;have hid:(⟨d::st.pre,0,x⟩:DE T).toE.id =d::st.pre:=DE.toE_id _;have aey:=hR.avW hav hinv (⟨d::st.pre,0,x⟩:DE T).toE nv (fun hp=>by
  cases x with
  | box cs=>cases hp
  | row E l=>exact AV _ (fun y=>by have:=Dr (T:=T) (.s E) y;grind [EE,V.pure]) _
  | deep E n l h=>exact absurd rfl (hx.nd E n l h)) (by grind)
 rw [hid]at aey;refine⟨Ci (F.afz b) G (d::st.pre) (some b) nv,?_⟩;rw [Af.k_];refine(aey.less ahh).aeS ?_;grind [DV.toV,DC.toC,Ab]
end Go.PL
set_option linter.all false
namespace Go.PL
open Go Go.RowKit
variable {T:Bm}
def prI (acc:List (List Nat)) (d:List Nat) (i:Nat):List Nat:=(List.range i).filter fun j=>Hw d j||d.any fun k=>Hw (acc.getD k []) j
def AeE (ops:Array Oper):Nat->Nat->List (List Nat)->List (List Nat)
 | 0,_,acc=>acc
 | n+1,i,acc=>AeE ops n (i+1) (acc++[prI acc (VL ops i) i])
def AeF (ops:Array Oper):List (List Nat):=AeE ops ops.size 0 []
def RQ (ops:Array Oper) (v:List Bool) (i:Nat):Bool:= !bv v i&&(VL ops i).all (bv v)
theorem kl {ops:Array Oper} {v:List Bool} (hv:v.length=ops.size):Region.ready .any ops v.toArray=(List.range ops.size).filter (RQ ops v):=by
 unfold Region.ready;refine List.filter_congr fun i hi=>?_;have hi:i<ops.size:=by grind
 have ho:ops[i]? =some ops[i]:=(by grind);unfold RQ VL;rw [ho];have e1:v.toArray.getD i true=bv v i:=by simp_all [bv]
 rw [e1];congr 1;simp only [map_some,Option.getD_some];rw [Bool.eq_iff_iff];simp only [Array.all_eq_true_iff_forall_mem,or_eq_true,not_eq_true',all_eq_true,mem_map,mem_filter,forall_exists_index,and_imp,forall_apply_eq_imp_iff₂];constructor
 ·intro h x e he hb hx;subst hx;have:=h e (by simpa using he);simp_all [bv]
 ·intro h e he;cases hb:Region.binds .any e
  ·grind
  ·right;have:=h e.on e (by simpa using he) hb rfl;simp_all [bv]
def Aa2 (ops:Array Oper) (v:List Bool):Option Nat:=(List.range ops.size).find? fun i=>RQ ops v i&& !Nat.beq (Oo ops i) 0
def nQ (ops:Array Oper) (i:Nat):Bool:=match ops[i]? with
 | some o=>vx o
 | none=>false
def vy (ops:Array Oper) (v:List Bool):Option Nat:=match (List.range ops.size).filter fun i=>RQ ops v i&& !nQ ops i with
 | [i]=>some i
 | []=>(List.range ops.size).find? fun i=>RQ ops v i&&nQ ops i
 | _=>none
def AcF (ops:Array Oper) (pr:List (List Nat)) (v:List Bool) (i:Nat):Bool:=(List.range ops.size).all fun k=>bv v k||(Nat.beq k i||(nQ ops k||(pr.getD k []).any fun j=> !bv v j&&(!nQ ops j||Nat.beq j i)))
def isU:DV T->Bool
 | .u =>true
 | _=>false
def unM (ops:Array Oper) (v:List Bool) (st:Af T):Bool:=(List.range ops.size).all fun k=>bv v k||match ops[k]? with
 | some o=> !vx o||match o.dst with
   | some d=>isU (st.get d)&&Nat.blt d st.m
   | none=>false
 | none=>true
def Yv (ops:Array Oper):Bool:=(List.range ops.size).all fun i=>(List.range ops.size).all fun j=>Nat.beq i j||match ops[i]?,ops[j]? with
 | some o,some o'=>match o.dst,o'.dst with
   | some d,some e=> !Nat.beq d e
   | _,_=>true
 | _,_=>true
def Yw (P:Program) (ops:Array Oper) (st:Af T):Bool:=ops.toList.all fun o=> !vx o||(xt P st o).isSome
def sv:List Oper->Af T->Af T
 | [],st=>st
 | o::r,st=>match vx o with
   | true=>sv r (st.put o.dst .u)
   | false=>sv r st
def vz (ops:Array Oper) (pr:List (List Nat)) (v:List Bool) (p:Nat):Bool:=(List.range ops.size).any fun k=>bv v k&&(Nat.beq (Oo ops k) 0&&Hw (pr.getD k []) p)
def Yx (ops:Array Oper) (pr:List (List Nat)) (v:List Bool) (pd:List PE) (st:Af T):Bool:=
 (List.range ops.size).all fun p=> !bv v p||(!Nat.beq (Oo ops p) 1||(vz ops pr v p||pd.any fun q=>Nat.beq q.i p&&sr st q))
def Vo (ops:Array Oper) (pr:List (List Nat)) (lz:List Nat) (v:List Bool) (pd:List PE) (st:Af T):Bool:=
 lz.all fun p=> !bv v p||(vz ops pr v p||pd.any fun q=>Nat.beq q.i p&&sr st q)
def isN:HA->Bool
 | .n =>true
 | _=>false
def vC (o:Oper):Bool:=match o.op,o.guard,o.dst with
 | .buildSlice ..,none,some _=>true
 | _,_,_=>false
def vD (o:Oper) (st:Af T):Bool:=match o.dst with
 | some d=>Nat.blt d st.m
 | none=>false
def AeG (o:Oper):Bool:=match o.op with
 | .load .. =>true
 | _=>false
def AeH:HA->Option Bool
 | .q (.sub md)=>some md
 | _=>none
def AeI (P:Program) (st:Af T) (o:Oper):HA->Bool
 | .q .dlx =>true
 | .q .au =>auL P st o
 | _=>false
def opR {P:Program} {I:World->Prop} (Γ:List (CE T P I)) (rec:sj T) (ops:Array Oper) (o:Oper) (st:Af T) (h:HA) (R:Type) (K:Af T->Option R):Option R:=match h with
 | .n =>dop Γ ops o st R K
 | .q sp=>yS Γ ops o st sp R K
 | .c h=>nP P rec o h st R K
 | .j sh h=>jn (fun v:RT T sh.ts=>match sh.inst st (CL sh.ts v)with
  | some s=>K s
  | none=>none) (fun j=>nP P rec o h st R fun b=>match sh.gen st b with
  | some v=>j v
  | none=>none)
 | .u .. =>none
def Mk {P:Program} {I:World->Prop} (Γ:List (CE T P I)) (rec:sj T) (ops:Array Oper) (pr:List (List Nat)) (lz:List Nat) (il:Hl):Nat->List Bool->List PE->Af T->(R:Type)->(Af T->Option R)->Option R
 | 0,v,pd,st,R,K=>match Vo ops pr lz v pd st with
   | false=>none
   | true=>match (List.range ops.size).all (bv v)with
     | true=>TU il ops.size st R K
     | false=>none
 | n+1,v,pd,st,R,K=>match Vo ops pr lz v pd st with
   | false=>none
   | true=>match Aa2 ops v with
     | some i=>match ops[i]? with
       | some o=>match Nat.beq (DZ o) 2,vD o st with
         | true,true=>L9 P [] st o.op R fun u=>Mk Γ rec ops pr lz il n (v.set i true) pd (st.put o.dst u) R K
         | false,true=>match AeH (Mj il i),AeI P st o (Mj il i),AeG o with
           | some md,_,_=>yE P o md st R fun a_=>Mk Γ rec ops pr lz il n (v.set i true) pd a_ R K
           | none,true,_=>dlx P o st R fun a_=>Mk Γ rec ops pr lz il n (v.set i true) pd a_ R K
           | none,false,false=>none
           | none,false,true=>match AcD P (Hw lz i) o i st with
             | some (a_,q)=>Mk Γ rec ops pr lz il n (v.set i true) (q::pd) a_ R K
             | none=>L9 P [] st o.op R fun u=>Mk Γ rec ops pr lz il n (v.set i true) pd (st.put o.dst u) R K
         | _,_=>none
       | none=>none
     | none=>match vy ops v with
       | some i=>match ops[i]?,AcF ops pr v i&&unM ops v st with
         | some o,true=>match DZ o,vx o with
           | 0,true=>match o.dst,xt P st o with
             | some d,some x=>match st.new (d::st.pre) x with
               | some s=>Mk Γ rec ops pr lz il n (v.set i true) pd (s.put (some d) (.c (.c (Yu x (d::st.pre))))) R K
               | none=>none
             | _,_=>none
           | 0,false=>match vC o&&isN (Mj il i)with
             | true=>rE P st o R fun a_=>Mk Γ rec ops pr lz il n (v.set i true) pd a_ R K
             | false=>opR Γ rec ops o st (Mj il i) R fun a_=>match Yx ops pr (v.set i true) pd a_ with
               | true=>Mk Γ rec ops pr lz il n (v.set i true) pd a_ R K
               | false=>none
           | _,_=>none
         | _,_=>none
       | none=>none
theorem vE {α:Type} {p:α->Bool} {l:List α} {x:α} (h:l.find? p=some x):x∈l/\p x=true:=(by grind)
theorem GV (v:List Bool) (k:Nat):v.toArray.getD k false=bv v k:=by simp_all [bv]
theorem Ds {v:List Bool} {i k:Nat} (hi:i<v.length):bv (v.set i true) k=(k==i||bv v k):=by simp only [bv,List.getD_eq_getElem?_getD,getElem?_set];grind
theorem OA {o:Oper} (h:vx o=true):o.guard=none/\(∃ d,o.dst=some d)/\DZ o=0:=by grind [vx,DZ,Om]
theorem Ld.take {F0 F:Fr} {D:List (Nat×Nat)} {st:St} {a:Act} {w w1:World} {G:AF} (t:Ld F0 F D) (h:R F st a w G) (ho:N3 w w1) (hs:C6 w w1) (i:Nat):Ld F0 (F.take w1 w.heap.size G) ((i,w.heap.size)::D):=by
 have h1:=le_trans t.size h.v_;refine⟨t.alV,t.gv,fun x=>?_,le_trans h1 hs.size,fun x hx hx2=>?_,fun x ⟨j,hj⟩=>?_,fun p hp=>?_,ho.os.trans (h.os.trans t.os),ho.tape.trans (h.tape.trans t.tape),ho.output.trans (h.output.trans t.output)⟩
 ·show F.av x\/x=w.heap.size↔_;rw [t.av];grind
 ·obtain⟨k1,k2⟩:=t.kept x hx hx2;refine⟨fun⟨j,hj⟩=>?_,?_⟩
  ·rcases h.new j x hj with q | q
   all_goals grind
  ·show w1.heap[x]? =_;rw [hs.block x (by omega),h.ext x (by grind) k1,k2]
 ·rcases h.new j x hj with q | q
  ·exact .inl (le_trans t.size q)
  ·exact t.old x q
 ·rcases mem_cons.1 hp with rfl | hp
  ·exact h1
  ·exact t.new p hp
theorem fG {α β:Type} {f:α->β}: ∀ {l:List α} {x y:α},(l.map f).Nodup ->x∈l->y∈l->f x=f y->x=y
 | a::l,x,y,h,hx,hy,e=>by
   rw [map_cons]at h;obtain⟨h1,h2⟩:=nodup_cons.1 h;rcases mem_cons.1 hx with q1 | q1<;>rcases mem_cons.1 hy with q2 | q2
   ·rw [q1,q2]
   ·subst q1;exact absurd (mem_map.2 ⟨y,q2,e.symm⟩) h1
   ·subst q2;exact absurd (mem_map.2 ⟨x,q1,e⟩) h1
   ·exact fG h2 q1 q2 e
theorem Ld.afz {F0 F:Fr} {D:List (Nat×Nat)} {i b:Nat} (t:Ld F0 F D) (hi:(i,b)∈D) (n1:(D.map (·.1)).Nodup) (n2:(D.map (·.2)).Nodup) (hl: ∀ x,F0.av x->x<F0.w0.heap.size):Ld F0 (F.afz b) (D.filter fun p=>p.1 != i):=by
 have hb:=t.new _ hi;simp only at hb;refine⟨t.alV,t.gv,fun x=>?_,t.size,fun x hx hx2=>?_,fun x hx=>?_,fun p hp=>t.new p (by grind),t.os,t.tape,t.output⟩
 ·show F.av x/\x ≠ b↔_;rw [t.av];constructor
  ·rintro⟨q | ⟨j,q⟩,Tg⟩
   ·exact .inl q
   ·refine .inr ⟨j,mem_filter.2 ⟨q,?_⟩⟩;have:j ≠ i:=fun e=>by subst e;have:=fG n1 q hi rfl;grind
    grind
  ·rintro(q | ⟨j,q⟩)
   ·grind
   ·obtain⟨q1,q2⟩:=mem_filter.1 q;refine⟨.inr ⟨j,q1⟩,fun e=>?_⟩;subst e;have:=fG n2 q1 hi rfl;grind
 ·obtain⟨k1,k2⟩:=t.kept x hx hx2;refine⟨fun q=>?_,k2⟩;rcases q with q | q
  all_goals grind
 ·rcases hx with q | q
  ·exact t.old x q
  grind
def vF (P:Program) (ops:Array Oper) (st:Af T) (F:Fr) (a:Act) (p:Nat×Nat):Prop:=
 ∃ o d x arr Tt,ops[p.1]? =some o/\vx o=true/\o.dst=some d/\xt P st o=some x/\AcE x arr Tt/\F.w0.heap[p.2]? =some (.cells arr Tt (0,0))/\ ¬F.old p.2/\a.tmps.getD d Go.undef=fF x p.2
theorem vF.move {P:Program} {ops:Array Oper} {st a_:Af T} {F:Fr} {a a':Act} {p:Nat×Nat} (h:vF P ops st F a p) (ha: ∀ d o,ops[p.1]? =some o->o.dst=some d->a'.tmps.getD d Go.undef=a.tmps.getD d Go.undef):vF P ops a_ F a' p:=by obtain⟨o,d,x,arr,Tt,h1,h2,h3,h4,h5,h6,h7,h8⟩:=h;exact⟨o,d,x,arr,Tt,h1,h2,h3,by rw [TX h2 (a_:=st)];exact h4,h5,h6,h7,by rw [ha d o h1 h3];exact h8⟩
theorem AeJ {P:Program} {ops:Array Oper} {st:Af T} {F:Fr} {a:Act} {p:Nat×Nat} (h:vF P ops st F a p) {o:Oper} (ho:ops[p.1]? =some o):DZ o=0:=by obtain⟨o',_,_,_,_,h1,h2,_⟩:=h;simp_all [OA]
theorem HI {ops:Array Oper} (h:Yv ops=true) {i j:Nat} {o o':Oper} {d e:Nat} (hi:ops[i]? =some o) (hj:ops[j]? =some o') (Tg:i ≠ j) (hd:o.dst=some d) (he:o'.dst=some e):d ≠ e:=by
 simp only [Yv,all_eq_true,mem_range]at h;have:=h i (Array.getElem?_eq_some_iff.1 hi).1 j (Array.getElem?_eq_some_iff.1 hj).1;simp only [hi,hj,hd,he,or_eq_true,beq_eq,not_eq_true']at this;rcases this with q | q
 ·grind
 ·intro e';simp_all
def yW (n:Nat) (v:List Bool):List Nat:=(List.range n).filter fun k=> !bv v k
theorem vG: ∀ {l l':List Nat},l.Nodup->(∀ x∈l,x∈l')->l.length<=l'.length
 | [],_,_,_=>Nat.zero_le _
 | a::l,l',h,hs=>by obtain⟨h1,h2⟩:=nodup_cons.1 h;have ha:=hs a (by simp);have:=vG (l:=l) (l':=l'.erase a) h2 (by grind);grind
theorem AcG (n:Nat) (v:List Bool):(yW n v).Nodup :=List.Sublist.nodup filter_sublist List.nodup_range
theorem WA {n:Nat} {v:List Bool} {i:Nat} (hv:v.length=n) (hi:i<n) (hu:bv v i=false):(yW n (v.set i true)).length +1<=(yW n v).length :=by
 have:=vG (l:=i::yW n (v.set i true)) (l':=yW n v) (nodup_cons.2 ⟨fun h=>?_,AcG _ _⟩) fun x hx=>?_
 ·grind
 ·have:=(mem_filter.1 h).2;grind [Ds]
 ·rcases mem_cons.1 hx with rfl | hx
  ·exact mem_filter.2 ⟨by simpa using hi,by rw [hu];rfl⟩
  ·obtain⟨h1,h2⟩:=mem_filter.1 hx;rw [Ds (by omega)]at h2;exact mem_filter.2 ⟨h1,by simp only [not_eq_true',or_eq_false_iff]at h2 ⊢;exact h2.2⟩
section
variable {H:Ax T} {P:Program} {I:World->Prop} {Γ:List (CE T P I)} {rec:sj T} {st:Af T} {ops:Array Oper} {pr:List (List Nat)} {lz:List Nat} {F0:Fr}
theorem AcH (abz:kh P I rec) (hw:AI H st) {o:Oper} {h:HA} {R':Type} {K:Af T->Option R'} {r:R'} (hr:opR Γ rec ops o st h R' K=some r) {PK:St->Prop}
 (hK: ∀ H' a_,Nx H st H' a_->K a_=some r->PK a_.toSt):bY P I ops o st.toSt (fun s=> ∃ s',Wk s s'/\PK s'):=by
 have refl: ∀ s:St,Wk s s:=fun s=>Wk.less (B8.refl s);unfold opR at hr;split at hr
 ·obtain⟨a_,⟨⟨H1,n1⟩,_,w1⟩,hr⟩:=fh hw o R' _ r hr;grind
 ·obtain⟨a_,⟨⟨H1,n1⟩,_,w1⟩,hr⟩:=pZ hw o _ R' _ r hr;grind
 ·obtain⟨g1,g2⟩:=RO (PK:=fun s=> ∃ s',Wk s s'/\PK s') abz hw hr fun H' s n _ q=>⟨_,refl _,hK H' s n q⟩;simp only [bY,g1];exact .inl g2
 ·rename_i sh h;unfold jn at hr;obtain⟨g1,g2⟩:=RO (PK:=fun s=> ∃ s',Wk s s'/\PK s') abz hw hr fun H' s n _ q=>by
   split at q
   ·rename_i v hg;dsimp only at q;split at q
    ·rename_i s' hi;obtain⟨H2,n2⟩:=Iy.aeq hw (EG sh.ts v) hi;grind [Iy.ad7]
    ·cases q
   ·cases q
  simp only [bY,g1];exact .inl g2
 ·cases hr
theorem AeK {o:Oper} (hb:vC o=true) {s:St} (h1:(ef P st.toSt o).1) (h2:B8 (ef P st.toSt o).2 s) {F:Fr} {a:Act} {w:World} {G:AF} (hR:R F st.toSt a w G) {Q:Exit->Act->World->Prop}:
 o.wp P a w (fun a' w'=>C6 w w'/\ ∃ G',R F s a' w' G') Q:=by
 unfold vC at hb;split at hb
 ·rename_i t len ps d hop hg hd;obtain⟨dst,op,ty,pos,aft,gd⟩:=o;simp only at hop hg hd;subst hop hg hd;have h1':(Bf P st.toSt d t len ps.toList).1:=h1;have h2':B8 (Bf P st.toSt d t len ps.toList).2 s:=h2;obtain⟨r,w',G',q1,q2⟩:=K1 hR h1';have:=TD hR h1' q1;unfold Oper.wp;have s_:(execOp a.eval ⟨some d, .buildSlice t len ps,ty,pos,aft,none⟩).run P w= .ok (.value r) w':=by simp [execOp,q1]
  rw [s_];exact⟨this,G',q2.less h2'⟩
 ·cases hb
structure Fy (P:Program) (ops:Array Oper) (pr:List (List Nat)) (F0:Fr) (v:List Bool) (st:Af T) (m:Nat) (L:List Bool) (D:List (Nat×Nat)) (F:Fr) (a:Act) (w:World) (G:AF):Prop where
 hv:v.length=ops.size
 hL:L.length=ops.size
 hb: ∀ k,bv L k=(bv v k||D.any fun p=>p.1==k)
 hdc:uM pr L.toArray
 n1:(D.map (·.1)).Nodup
 n2:(D.map (·.2)).Nodup
 hD: ∀ p∈D,p.1<ops.size/\bv v p.1=false/\vF P ops st F a p
 ht:Ld F0 F D
 hc:(yW ops.size v).length <=m+D.length
 hR:R F st.toSt a w G
structure Fx (P:Program) (ops:Array Oper) (pr:List (List Nat)) (lz:List Nat) (F0:Fr) (v:List Bool) (st:Af T) (m:Nat) (L:List Bool) (D:List (Nat×Nat)) (F:Fr) (a:Act) (w:World) (G:AF):Prop extends Fy P ops pr F0 v st m L D F a w G where
 hS:Z3 P ops pr lz L.toArray a w
variable {v L:List Bool} {m:Nat} {D:List (Nat×Nat)} {F:Fr} {a:Act} {w:World} {G:AF}
theorem Pi {D:List (Nat×Nat)} {k:Nat}:(D.any fun p=>p.1==k)=true↔ ∃ b,(k,b)∈D:=by grind
theorem Fx.pos (h:Fx P ops pr lz F0 v st m L D F a w G) {i:Nat} (hi:i<ops.size) (hu:bv v i=false) (hn: ∀ b,(i,b)∉D):1<=m:=by
 have:=vG (l:=i::D.map (·.1)) (l':=yW ops.size v) (nodup_cons.2 ⟨fun q=>?_,h.n1⟩) fun x hx=>?_
 ·have h2:=h.hc;grind
 ·grind
 ·rcases mem_cons.1 hx with rfl | hx
  ·exact mem_filter.2 ⟨by simpa using hi,by rw [hu];rfl⟩
  ·obtain⟨p,hp,rfl⟩:=mem_map.1 hx;obtain⟨h1,h2,_⟩:=h.hD p hp;exact mem_filter.2 ⟨by simpa using h1,by rw [h2];rfl⟩
theorem Fx.rdy (h:Fx P ops pr lz F0 v st m L D F a w G) {i:Nat} (hi:i<ops.size) (hr:RQ ops v i=true) (hn: ∀ b,(i,b)∉D):i∈Region.ready .any ops L.toArray:=by rw [kl h.hL];simp only [RQ,and_eq_true,not_eq_true',all_eq_true]at hr;refine mem_filter.2 ⟨by grind,?_⟩;simp only [RQ,and_eq_true,not_eq_true',all_eq_true];refine⟨?_,fun x hx=>by rw [h.hb,hr.2 x hx];rfl⟩;rw [h.hb,hr.1,Bool.false_or];grind
theorem Fx.afm (hp:Rs ops pr=true) (h:Fx P ops pr lz F0 v st m L D F a w G) {j:Nat} (hj:j∈Region.ready .any ops L.toArray):j<ops.size/\bv L j=false/\bv v j=false/\(∀ b,(j,b)∉D)/\ ∀ x∈pr.getD j [],bv L x=true:=by
 obtain⟨h1,h2,h3⟩:=Gy hp h.hdc hj;have h4:bv L j=false:=by grind [GV]
 have h5:=h4;rw [h.hb,or_eq_false_iff]at h5;refine⟨h1,h4,h5.1,fun b hb=>?_,fun x hx=>by rw [<-GV];exact h3 x hx⟩;have:=Pi.2 ⟨b,hb⟩;rw [h5.2]at this;cases this
theorem R.amE {st:St} (h:R F st a w G) {d:Nat} {u:Value} (hu:Ab w G (st.tm.getD d .undef) u):R F st (a.put (some d) u) w G:=by
 have:=h.put (d:=some d) hu;have e:st.put (some d) (st.tm.getD d .undef)=st:=by simp only [St.put];congr 1;apply List.ext_getElem?;grind
 grind
theorem Fy.up1 (hst:TC ops pr=true) (hdn:Yv ops=true) (hlz:PB ops lz=true) (hw:AI H st) {pd:List PE} (hpd: ∀ q∈pd,VN P ops lz H st.nx q) (hck:Vo ops pr lz v pd st=true) (h:Fy P ops pr F0 v st m L D F a w G) {a':Act} (hu:Up1 P ops pr lz L.toArray w a a'):Fy P ops pr F0 v st m L D F a' w G:=by
 obtain⟨p,o,d,u,h1,h2,h3,h4,h5,h6,rfl⟩:=hu;obtain⟨k1,k2⟩:=JI hlz h1 h2;have hcN:Oo ops p=1:=by grind [Oo]
 have nmk: ∀ q,(p,q)∉D:=fun q hq=>by obtain⟨_,_,o',_,_,_,_,r1,r2,_⟩:=h.hD _ hq;simp_all [OA]
 have hvp:bv v p=true:=by rw [GV,h.hb,or_eq_true]at h4;grind
 simp only [Vo,all_eq_true,or_eq_true,not_eq_true']at hck;rcases hck p h1 with q | q | q
 ·grind
 ·exfalso;refine h5 ?_;simp only [vz,any_eq_true,mem_range,and_eq_true,beq_eq,Dd]at q;obtain⟨k,_,k1,k2,k3⟩:=q;exact⟨k,by rw [GV,h.hb,k1];rfl,k2,k3⟩
 ·simp only [any_eq_true,and_eq_true,beq_eq]at q;obtain⟨q0,hq0,e0,hok⟩:=q;subst e0;obtain⟨r1,x,_,r2,r3⟩:=Wz hw (hpd q0 hq0) hok h2 h.hR;rw [h3]at r1;injection r1 with r1;subst r1;rw [r3 w (C6.refl w)]at h6;have hxu:x=u:=by grind
  subst hxu;exact {h with
   hD:=fun p' hp'=>by obtain⟨s1,s2,s3⟩:=h.hD p' hp';have Tg:p'.1 ≠ q0.i:=(by grind);refine⟨s1,s2,s3.move fun d' o' ho' hd'=>?_⟩;exact EC (by grind)
   hR:=h.hR.amE r2}
theorem Fx.ups (hst:TC ops pr=true) (hdn:Yv ops=true) (hlz:PB ops lz=true) (hw:AI H st) {pd:List PE} (hpd: ∀ q∈pd,VN P ops lz H st.nx q) (hck:Vo ops pr lz v pd st=true) (h:Fx P ops pr lz F0 v st m L D F a w G) {a':Act} (hu:Ups P ops pr lz L.toArray w a a'):Fx P ops pr lz F0 v st m L D F a' w G:=by
 induction hu with
 | refl=>exact h
 | step _ h1 ih=>exact {toFy:=ih.toFy.up1 hst hdn hlz hw hpd hck h1,hS:=ih.hS.up1 hst hlz h1}
theorem Yy {il:Hl} {pd:List PE} {R':Type} {K:Af T->Option R'} {r:R'}: ∀ {n:Nat},Mk Γ rec ops pr lz il n v pd st R' K=some r->Vo ops pr lz v pd st=true
 | 0,h=>by grind [Mk]
 | n+1,h=>by grind [Mk]
theorem Cb (L:List Bool) (i:Nat):L.toArray.setIfInBounds i true=(L.set i true).toArray :=by simp
theorem Fx.make (hst:TC ops pr=true) (hdn:Yv ops=true) (hlz:PB ops lz=true) {pd:List PE} (hpd: ∀ q∈pd,VN P ops lz H st.nx q) (hck:Vo ops pr lz v pd st=true) (hi0:vu F0) (hw:AI H st) (hma:Yw P ops st=true) (hun:unM ops v st=true) (h:Fx P ops pr lz F0 v st (m+1) L D F a w G) {j:Nat} (hj:j∈Region.ready .any ops L.toArray) (hm:nQ ops j=true) {Q:Exit->Act->World->Prop}
 (hK: ∀ L D F a w' G,Fx P ops pr lz F0 v st m L D F a w' G->(j,w.heap.size)∈D->Eh P ops Q pr lz m L.toArray a w'):
 wpOp P ops Q j (fun a' w'=> ∀ a'',Ups P ops pr lz (L.toArray.setIfInBounds j true) w' a' a''->Z3 P ops pr lz (L.toArray.setIfInBounds j true) a'' w'/\Eh P ops Q pr lz m (L.toArray.setIfInBounds j true) a'' w') a w:=by
 obtain⟨hns,hp,ad5⟩:=HD hst;obtain⟨hjl,hju,hjv,hjD,_⟩:=h.afm hp hj;unfold nQ at hm;have hoj:ops[j]? =some ops[j]:=(by grind);generalize ops[j]=o at hoj;rw [hoj]at hm;simp only at hm;obtain⟨hg,⟨d,hd⟩,hc⟩:=OA hm;obtain⟨x,hx⟩: ∃ x,xt P st o=some x:=by simp only [Yw,all_eq_true,or_eq_true,not_eq_true']at hma;grind [Option.isSome_iff_exists]
 have hud:st.get d= .u /\d<st.m:=by simp only [unM,all_eq_true,mem_range,or_eq_true]at hun;have:=hun j hjl;rw [hjv,hoj]at this;simp only [hm,hd,Bool.not_true,Bool.false_or,and_eq_true,blt_eq]at this;grind [isU]
 obtain⟨arr,Tt,s_,hxo⟩:=yV hw hx h.hR;have hsz:a.tmps.size=st.m:=by rw [h.hR.size];exact Bw _ _
 refine nq hst hlz hoj hc h.hdc hj h.hS (K:=fun a' w'=>C6 w w'/\ ∃ D' F' G',Fy P ops pr F0 v st m (L.set j true) D' F' a' w' G'/\(j,w.heap.size)∈D') ?_ ?_ ?_ ?_
 ·rw [Gq hg,if_pos rfl];refine AK s_ ?_;rw [hd];refine⟨JY _ _,?_⟩;have hsm:=JY w (.cells arr Tt);have t':=h.ht.take h.hR (KY w (.cells arr Tt)) hsm j;obtain⟨G1,hR1⟩:=h.hR.taken (KY w (.cells arr Tt)) hsm (b:=w.heap.size) rfl (by simp [JX]) (t'.as8 hi0 fun x hx hx2=>(t'.kept x hx hx2).1) (d:=d) (v:=fF x w.heap.size) (by rw [st.aaZ,hud.1];simp only [DV.toV]);refine⟨(j,w.heap.size)::D,_,G1,⟨h.hv,by simpa using h.hL,fun k=>?_,by rw [<-Cb];exact h.hdc.set hp hj,?_,?_,fun p hp'=>?_,t',?_,hR1⟩,List.mem_cons_self⟩
  ·rw [Ds (by rw [h.hL];exact hjl),h.hb,List.any_cons];grind
  ·rw [map_cons];refine nodup_cons.2 ⟨fun q=>?_,h.n1⟩;grind
  ·rw [map_cons];refine nodup_cons.2 ⟨fun q=>?_,h.n2⟩;obtain⟨p,hp',e⟩:=mem_map.1 q;have e:p.2=w.heap.size:=e;have hav:F.av p.2:=(h.ht.av _).2 (.inr ⟨p.1,hp'⟩);have:=h.hR.aaJ _ hav;have:=h.hR.v_;omega
  ·rcases mem_cons.1 hp' with rfl | hp'
   ·refine⟨hjl,hjv,o,d,x,arr,Tt,hoj,hm,hd,hx,hxo,heap_alloc_new w _,fun⟨i,hi⟩=>?_,?_⟩
    ·have:=h.hR.lt i _ hi;omega
    simp_all [Act.put]
   ·obtain⟨q1,q2,o',d',x',aa5,Tt',r1,r2,r3,r4,r5,r6,r7,r8⟩:=h.hD p hp';have hav:F.av p.2:=(h.ht.av _).2 (.inr ⟨p.1,hp'⟩);refine⟨q1,q2,o',d',x',aa5,Tt',r1,r2,r3,r4,r5,?_,fun⟨i,hi⟩=>h.hR.unnamed hav i hi,?_⟩
    ·show (w.alloc (.cells arr Tt)).heap[p.2]? =_;have hlt:=h.hR.aaJ _ hav;rw [hsm.block p.2 (lt_of_lt_of_le hlt h.hR.v_),h.hR.ext p.2 hlt r7];exact r6
    ·have Tg:p.1 ≠ j:=(by grind);rw [<-r8];exact EC (x:=some d) (fun e he=>by injection he with he;subst he;exact HI hdn hoj r1 (Ne.symm Tg) hd r3)
  ·have:=h.hc;grind
 ·intro a' w' ⟨hsm,_⟩ p op hop hcp hpl hpf he1 he2 hW d hd;obtain⟨u,m1,m2⟩:=hW d hd;refine⟨u,by grind,fun w1 hw1=>?_⟩;have h1:=hw1.resolve_left (by rw [hcp];omega);rw [he1 w1 (hsm.trans h1)];exact m2 w1 (.inr (hsm.trans h1))
 ·intro a' w' a'' ⟨hsm,D',F',G',hf,hj'⟩ hu;rw [Cb]at hu;exact⟨hsm,D',F',G',hf.up1 hst hdn hlz hw hpd hck hu,hj'⟩
 ·intro a' w' ⟨hsm,D',F',G',hf,hj'⟩ _ hS';rw [Cb]at hS' ⊢;exact hK _ D' F' a' w' G' {toFy:=hf,hS:=hS'} hj'
theorem Fx.auB (hi0:vu F0) (hl0: ∀ x,F0.av x->x<F0.w0.heap.size) (hw:AI H st) (h:Fx P ops pr lz F0 v st m L D F a w G) {i b d:Nat} {o:Oper} {x:DX T} {s:Af T} (hi:(i,b)∈D) (ho:ops[i]? =some o) (hd:o.dst=some d) (hx:xt P st o=some x) (hs:st.new (d::st.pre) x=some s):
 ∃ G',Fx P ops pr lz F0 (v.set i true) (s.put (some d) (.c (.c (Yu x (d::st.pre))))) m L (D.filter fun p=>p.1 != i) (F.afz b) a w G':=by
 obtain⟨hil,hiv,o',d',x',arr,Tt,r1,r2,r3,r4,r5,r6,r7,r8⟩:=h.hD _ hi;simp only at hil hiv r1 r6 r7 r8;rw [ho]at r1;injection r1 with r1;subst r1;rw [hd]at r3;injection r3 with r3;subst r3;rw [hx]at r4;injection r4 with r4;subst r4;have t':=h.ht.afz hi h.n1 h.n2 hl0;have hav:F.av b:=(h.ht.av _).2 (.inr ⟨i,hi⟩);have hh:w.heap[b]? =some (.cells arr Tt (0,0)):=by rw [h.hR.ext b (h.hR.aaJ b hav) r7];exact r6
 obtain⟨G',hR'⟩:=su hw r5 h.hR hav (t'.as8 hi0 fun x hx hx2=>(t'.kept x hx hx2).1) hh r8 hs;refine⟨G',⟨by simpa using h.hv,h.hL,fun k=>?_,h.hdc,List.Sublist.nodup (by grind [filter_sublist]) h.n1,List.Sublist.nodup (by grind [filter_sublist]) h.n2,fun p hp=>?_,t',?_,hR'⟩,h.hS⟩
 ·rw [h.hb,Ds (by rw [h.hv];exact hil)];by_cases hk:k=i
  ·grind
  ·have e1:(k==i)=false:=by grind
   rw [e1,Bool.false_or];congr 1;rw [Bool.eq_iff_iff,Pi,Pi];grind
 ·obtain⟨hp1,hp2⟩:=mem_filter.1 hp;have Tg:p.1 ≠ i:=by grind
  obtain⟨q1,q2,o',d',x',aa5,Tt',s1,s2,s3,s4,s5,s6,s7,s8⟩:=h.hD p hp1;refine⟨q1,by rw [Ds (by rw [h.hv];exact hil),q2];grind,o',d',x',aa5,Tt',s1,s2,s3,by grind [TX],s5,s6,fun q=>?_,s8⟩;rcases q with q | q
  ·exact s7 q
  ·have:p=(i,b):=fG h.n2 hp1 hi q;grind
 ·have h1:=WA h.hv hil hiv;have h2:=h.hc;have h3:(D.filter fun p=>p.1 != i).length +1=D.length:=by
   have key: ∀ l:List (Nat×Nat),(l.map (·.1)).Nodup ->(i,b)∈l->(l.filter fun p=>p.1 != i).length +1=l.length:=by
    intro l;induction l with
    | nil=>grind
    | cons p l ih=>
      intro hn hm;rw [map_cons]at hn;obtain⟨n1,n2⟩:=nodup_cons.1 hn;rcases mem_cons.1 hm with e | hm
      ·grind [List.filter_eq_self]
      grind
   exact key D h.n1 hi
  omega
theorem nR {v:List Bool} {i:Nat} (h:vy ops v=some i):i<ops.size/\RQ ops v i=true:=by
 unfold vy at h;split at h
 ·rename_i j hj;injection h with h;subst h;have:j∈(List.range ops.size).filter fun i=>RQ ops v i&& !nQ ops i:=by grind
  grind
 all_goals grind
theorem nS {v:List Bool} {i:Nat} (h:Aa2 ops v=some i):i<ops.size/\RQ ops v i=true/\Oo ops i ≠ 0:=by obtain⟨h1,h2⟩:=vE h;simp only [and_eq_true,not_eq_true']at h2;exact⟨by grind,h2.1,fun e=>by simp_all⟩
theorem p8 {v:List Bool} {i:Nat} (h:RQ ops v i=true):bv v i=false:=by simp_all [RQ]
theorem p9 {i:Nat} (h:nQ ops i=true):Oo ops i=0:=by
 unfold nQ at h;split at h
 all_goals simp_all [Oo,OA]
theorem IB {P:Program} {st a_:Af T} (h:Yw P ops st=true):Yw P ops a_=true:=by
 simp only [Yw,all_eq_true,or_eq_true,not_eq_true']at h ⊢;intro o ho;rcases h o ho with q | q
 ·exact .inl q
 ·cases hm:vx o with
  | false=>grind
  | true=>grind [TX]
theorem Fx.other (hp:Rs ops pr=true) (h:Fx P ops pr lz F0 v st m L D F a w G) {i:Nat} (hok:AcF ops pr v i=true) (hiD: ∀ b,(i,b)∉D) {j:Nat} (hj:j∈Region.ready .any ops L.toArray) (Tg:j ≠ i):nQ ops j=true:=by
 obtain⟨h1,h2,h3,h4,h5⟩:=h.afm hp hj;simp only [AcF,all_eq_true,mem_range,or_eq_true,beq_eq,any_eq_true,and_eq_true,not_eq_true']at hok;rcases hok j h1 with q | q | q | ⟨x,hx,q1,q2⟩
 ·grind
 ·grind
 ·exact q
 ·exfalso;have:=h5 x hx;rw [h.hb,q1,Bool.false_or]at this;obtain⟨b,hb⟩:=Pi.1 this;rcases q2 with q2 | q2
  ·obtain⟨_,_,o,d,y,arr,Tt,r1,r2,_⟩:=h.hD _ hb;grind [nQ]
  grind
theorem RR (hst:TC ops pr=true) (hdn:Yv ops=true) (hlz:PB ops lz=true) (abz:kh P I rec) (il:Hl) (hI0:F0.I=I) (hi0:vu F0) (hd0: ∀ x,F0.old x-> ¬F0.av x) (hl0: ∀ x,F0.av x->x<F0.w0.heap.size) {R':Type} {K:Af T->Option R'} {r:R'} {PK:St->Prop}:
 ∀ (n:Nat) (v:List Bool) (pd:List PE) (st:Af T) (H:Ax T),AI H st->(∀ q∈pd,VN P ops lz H st.nx q)->Yw P ops st=true->Mk Γ rec ops pr lz il n v pd st R' K=some r->(∀ H' a_,Nx H st H' a_->K a_=some r->PK a_.toSt)->
 ∀ (m:Nat) (L:List Bool) (D:List (Nat×Nat)) (F:Fr) (a:Act) (w:World) (G:AF),Fx P ops pr lz F0 v st m L D F a w G->Eh P ops (fun e a' w'=>e= .normal /\ ∃ s G',PK s/\R F0 s a' w' G') pr lz m L.toArray a w
 | 0,v,pd,st,H,hw,hpd,hma,hr,hK,m,L,D,F,a,w,G,h=>by
   simp only [Mk]at hr;split at hr
   ·cases hr
   split at hr
   ·rename_i ae1;simp only [all_eq_true,mem_range]at ae1;have hD:D=[]:=by
     cases D with
     | nil=>rfl
     | cons p D=>
       obtain⟨q1,q2,_⟩:=h.hD p (by simp);grind
    subst hD;obtain⟨s,⟨⟨H1,n1⟩,_,w1⟩,hr⟩:=GU ops.size il hw R' _ r hr;obtain⟨G',hR'⟩:=w1 F a w G h.hR;have hQ:(fun(e:Exit) (a':Act) (w':World)=>e= .normal /\ ∃ s G',PK s/\R F0 s a' w' G') .normal a w:=⟨rfl,s.toSt,G',hK H1 s n1 hr,h.ht.back hi0 hd0 hl0 hR'⟩;have hrd:Region.ready .any ops L.toArray=[]:=by
     rw [kl h.hL,List.filter_eq_nil_iff];intro i hi;have:bv L i=true:=by rw [h.hb,ae1 i (by simpa using hi)];rfl
     simp [RQ,this]
    cases m with
    | zero=>exact⟨hrd,hQ⟩
    | succ m=>exact⟨fun _=>hQ,fun i hi=>by rw [hrd]at hi;cases hi⟩
   ·cases hr
 | n+1,v,pd,st,H,hw,hpd,hma,hr,hK,m,L,D,F,a,w,G,h=>by
   obtain⟨hns,hp,ad5⟩:=HD hst;have hQ: ∀ c a w, ¬(fun(e:Exit) (a':Act) (w':World)=>e= .normal /\ ∃ s G',PK s/\R F0 s a' w' G') (.panic c) a w:=(by grind);have hI:F.I=I:=h.ht.alV.trans hI0;have hm:a.tmps.size=st.m:=by rw [h.hR.size];exact Bw _ _
   have hck:=Yy hr;simp only [Mk]at hr;split at hr
   ·cases hr
   split at hr
   ·rename_i i am3;obtain⟨hil,akF,hcN⟩:=nS am3;have hiu:=p8 akF;have hiD: ∀ b,(i,b)∉D:=fun b hb=>by obtain⟨_,_,o,d,x,arr,Tt,r1,r2,_⟩:=h.hD _ hb;grind [p9,nQ]
    have akE:=h.rdy hil akF hiD;have ajy:=h.hdc.set hp akE;rw [Cb]at ajy;obtain⟨m',rfl⟩: ∃ m',m=m'+1:=⟨m - 1,by have:=h.pos hil hiu hiD;omega⟩;split at hr
    ·rename_i o hi;have hc:DZ o ≠ 0:=by grind [Oo]
     obtain⟨hgd,d,hd⟩:=Mb hc;have hdl:d∉o.looksAt ops:=(by grind);have aty:=fun cs b=>Region.noSelect_spec hns i o cs b hi;have go: ∀ (a_:Af T) (H':Ax T) (pd':List PE),vD o st=true->Nx H st H' a_->(∀ q∈pd',VN P ops lz H' a_.nx q)->(∃ u G',(∀ w',(DZ o=2\/C6 w w')->(execOp a.eval o).run P w'= .ok (.value u) w')/\R F a_.toSt (a.put o.dst u) w G')->
      Mk Γ rec ops pr lz il n (v.set i true) pd' a_ R' K=some r->Eh P ops (fun e a' w'=>e= .normal /\ ∃ s G',PK s/\R F0 s a' w' G') pr lz (m'+1) L.toArray a w:=by
      intro a_ H' pd' hlt hn atv ⟨u,G',s_,hR'⟩ hq;have hW:rK P (i∈lz) o (a.put o.dst u) w:=by intro d' hd';refine⟨_, .inr rfl,fun w' hw'=>?_⟩;rw [hd]at hd';injection hd' with hd';subst hd';rw [execOp_put o aty a o.dst u (fun e he=>by rw [hd]at he;injection he with he;exact he▸hdl),s_ w' hw',hd];simp_all [vD,Act.put]
      have hS':=Z3.take hst hi hc h.hdc akE h.hS hW;refine Ab1 (v:=u) hst hlz hi hc hQ m' L.toArray a w h.hdc akE ?_;rw [Cb]at hS' ⊢;have hfx:Fx P ops pr lz F0 (v.set i true) a_ m' (L.set i true) D F (a.put o.dst u) w G':=?_
      ·intro a'' hu;have hf2:=hfx.ups hst hdn hlz hn.ok atv (Yy hq) hu;exact⟨hf2.hS,RR hst hdn hlz abz il hI0 hi0 hd0 hl0 n (v.set i true) pd' a_ H' hn.ok atv (IB hma) hq (fun H'' s n' q=>hK H'' s (hn.trans n') q) m' _ D F _ w G' hf2⟩
      refine⟨⟨by simpa using h.hv,by simpa using h.hL,fun k=>?_,ajy,h.n1,h.n2,fun p hp'=>?_,h.ht,?_,hR'⟩,hS'⟩
      ·rw [Ds (by rw [h.hL];exact hil),Ds (by rw [h.hv];exact hil),h.hb,Bool.or_assoc]
      ·obtain⟨q1,q2,q3⟩:=h.hD p hp';have Tg:p.1 ≠ i:=(by grind);refine⟨q1,by rw [Ds (by rw [h.hv];exact hil),q2];grind,q3.move fun d' o' ho' hd'=>?_⟩;exact EC (fun e he=>HI hdn hi ho' (Ne.symm Tg) he hd')
      ·have h1:=WA h.hv hil hiu;have h2:=h.hc;omega
     have pdx: ∀ {a_:Af T} {H':Ax T},Nx H st H' a_-> ∀ q∈pd,VN P ops lz H' a_.nx q:=fun hn q hq=>(hpd q hq).nx hn;have asG: ∀ {B:St},Yld P I o st.toSt B->DZ o ≠ 2-> ∃ u G',(∀ w',(DZ o=2\/C6 w w')->(execOp a.eval o).run P w'= .ok (.value u) w')/\R F B (a.put o.dst u) w G':=fun hy h2=>by obtain⟨u,G',q1,q2⟩:=hy F a w G hI h.hR;grind
     split at hr
     ·rename_i h2 hlt;have h2:DZ o=2:=(by simp_all);have hsl:Om o.op=true:=by grind [DZ]
      obtain⟨u,hu,hr⟩:=Ma hw (Mf _ _) o.op R' _ r hr;obtain⟨q1,q2,q3⟩:=hu rfl;obtain⟨H',hn⟩:=Af.aai hw o.dst q1;refine go _ H' pd hlt hn (pdx hn) ?_ hr;obtain⟨x,k1,k2⟩:=nm h.hR rfl hsl q2;change Ab w G (D7 P st.toSt true o.op).2 x at k1;rw [show (D7 P st.toSt true o.op).2=u.toV from q3]at k1;exact⟨x,G,fun w' _=>k2 w',by rw [Af.k_];exact h.hR.put k1⟩
     ·rename_i h2 hlt;have h2:DZ o ≠ 2:=fun e=>by simp_all
      split at hr
      ·obtain⟨a_,⟨⟨H',hn⟩,_,hy⟩,hr⟩:=pU (I:=I) hw R' _ r hr;grind
      ·obtain⟨a_,⟨⟨H',hn⟩,_,hy⟩,hr⟩:=uZ (I:=I) hw R' _ r hr;grind
      ·cases hr
      ·rename_i hld;have axr:BH o.op= .rd :=by
        unfold AeG at hld;split at hld
        ·rename_i q;rw [q];rfl
        ·cases hld
       split at hr
       ·rename_i a_ q hq;obtain⟨H',hn,_,hy,hpq,_⟩:=yU (I:=I) hw (lz:=lz) (fun q=>Dd.1 q) hi hq;grind
       ·obtain⟨u,hu,hr⟩:=Ma hw (Mf _ _) o.op R' _ r hr;obtain⟨H',hn⟩:=Af.aai hw o.dst (hu rfl).1;exact go _ H' pd hlt hn (pdx hn) (asG (vp hw axr hu) h2) hr
     ·cases hr
    ·cases hr
   ·split at hr
    ·rename_i i am3;obtain⟨hil,akF⟩:=nR am3;have hiu:=p8 akF;split at hr
     ·rename_i o hi hok;simp only [and_eq_true]at hok;obtain⟨hok,hun⟩:=hok;split at hr
      ·
       rename_i hc hmk;split at hr
       ·rename_i d x hd hx;split at hr
        ·rename_i s hs;have hxr: ∀ {m:Nat} {L:List Bool} {D:List (Nat×Nat)} {F:Fr} {a:Act} {w:World} {G:AF} {b:Nat},Fx P ops pr lz F0 v st m L D F a w G->(i,b)∈D->Eh P ops (fun e a' w'=>e= .normal /\ ∃ s G',PK s/\R F0 s a' w' G') pr lz m L.toArray a w:=by intro m L D F a w G b h hib;obtain⟨G',hfx⟩:=h.auB hi0 hl0 hw hib hi hd hx hs;obtain⟨_,_,_,_,_,_,_,r1,_,_,r4,r5,_⟩:=h.hD _ hib;simp only at r1;rw [hi]at r1;injection r1 with r1;subst r1;rw [hx]at r4;injection r4 with r4;subst r4;obtain⟨⟨H1,n1⟩,_,_⟩:=Af.aca hw r5.ok hs;obtain⟨H2,n2⟩:=Af.H_ n1 (some d) (v:= .c (.c (Yu x (d::st.pre)))) (by simp only [DV.ok,DC.ok]);exact RR hst hdn hlz abz il hI0 hi0 hd0 hl0 n (v.set i true) pd _ H2 n2.ok (fun q hq=>(hpd q hq).nx n2) (IB hma) hr (fun H'' s n' q=>hK H'' s (n2.trans n') q) m _ _ _ a w G' hfx
         have main: ∀ (m:Nat) (L:List Bool) (D:List (Nat×Nat)) (F:Fr) (a:Act) (w:World) (G:AF),Fx P ops pr lz F0 v st m L D F a w G->Eh P ops (fun e a' w'=>e= .normal /\ ∃ s G',PK s/\R F0 s a' w' G') pr lz m L.toArray a w:=by
          intro m;induction m with
          | zero=>
            intro L D F a w G h;by_cases hiD: ∃ b,(i,b)∈D
            ·grind
            ·have:=h.pos hil hiu (by grind);omega
          | succ m ih=>
            intro L D F a w G h;by_cases hiD: ∃ b,(i,b)∈D
            ·grind
            ·have hiD: ∀ b,(i,b)∉D:=(by grind);refine⟨fun q=>(by have:=h.rdy hil akF hiD;grind),fun j hj=>?_⟩;have hmj:nQ ops j=true:=by
              by_cases hji:j=i
              ·grind [nQ]
              ·exact h.other hp hok hiD hj hji
             exact h.make hst hdn hlz hpd hck hi0 hw hma hun hj hmj (by grind)
         grind
        ·cases hr
       ·cases hr
      ·rename_i hc hmk;have hiD: ∀ {m:Nat} {L:List Bool} {D:List (Nat×Nat)} {F:Fr} {a:Act} {w:World} {G:AF},Fx P ops pr lz F0 v st m L D F a w G-> ∀ b,(i,b)∉D:=by intro m L D F a w G h b hb;obtain⟨_,_,o',_,_,_,_,r1,r2,_⟩:=h.hD _ hb;grind
       split at hr
       ·rename_i aFr;have hbs:vC o=true:=by grind
        have hg:o.guard=none:=by grind [vC]
        have main: ∀ (m:Nat) (L:List Bool) (D:List (Nat×Nat)) (F:Fr) (a:Act) (w:World) (G:AF),Fx P ops pr lz F0 v st m L D F a w G->Eh P ops (fun e a' w'=>e= .normal /\ ∃ s G',PK s/\R F0 s a' w' G') pr lz m L.toArray a w:=by
         intro m;induction m with
         | zero=>
           intro L D F a w G h;have:=h.pos hil hiu (hiD h);omega
         | succ m ih=>
           intro L D F a w G h;have akE:=h.rdy hil akF (hiD h);refine⟨(by grind),fun j hj=>?_⟩;by_cases hji:j=i
           ·subst hji;have hI:F.I=I:=h.ht.alV.trans hI0;have ajy:=h.hdc.set hp akE;rw [Cb]at ajy;obtain⟨a_,⟨⟨H',hn⟩,e1,e2,_⟩,hq⟩:=Wt hw o R' _ r hr;have atV:=Yy hq;refine nq hst hlz hi hc h.hdc hj h.hS (K:=fun a' w'=>C6 w w'/\ ∃ G',R F a_.toSt a' w' G') ?_ ?_ ?_ ?_
            ·rw [Gq hg,if_pos rfl];exact AeK hbs e1 e2 h.hR
            ·intro a' w' ⟨hsm,_⟩ p op hop hcp hpl hpf he1 he2 hW d hd;obtain⟨u,m1,m2⟩:=hW d hd;refine⟨u,by grind,fun w1 hw1=>?_⟩;have h1:=hw1.resolve_left (by rw [hcp];omega);rw [he1 w1 (hsm.trans h1)];exact m2 w1 (.inr (hsm.trans h1))
            ·intro a' w' a'' ⟨hsm,G',hR'⟩ ⟨p,op,d,u,u1,hop,u3,hpl,hpf,u6,ea⟩;subst ea;refine⟨hsm,G',?_⟩;have hcp:=(JI hlz u1 hop).1;have aEU:p ≠ j:=(by grind);have hvp:bv (v.set j true) p=true:=by
              rw [Ds (by rw [h.hv];exact hil)];rcases DO hpl with e | q
              ·grind
              ·rw [GV,h.hb,or_eq_true]at q;rw [or_eq_true];rcases q with q | q
               ·exact .inr q
               ·exfalso;obtain⟨b,hb⟩:=Pi.1 q;obtain⟨_,_,o',_,_,_,_,r1,r2,_⟩:=h.hD _ hb;simp_all [OA]
             simp only [Vo,all_eq_true,or_eq_true,not_eq_true']at atV;rcases atV p u1 with q | q | q
             ·grind
             ·exfalso;refine hpf ?_;simp only [vz,any_eq_true,mem_range,and_eq_true,beq_eq,Dd]at q;obtain⟨k,_,k1,k2,k3⟩:=q;refine⟨k,?_,k2,k3⟩;rw [Cb,GV,Ds (by rw [h.hL];exact hil),h.hb];rw [Ds (by rw [h.hv];exact hil)]at k1;grind
             ·simp only [any_eq_true,and_eq_true,beq_eq]at q;obtain⟨q0,hq0,e0,am4⟩:=q;subst e0;obtain⟨r1,x,_,r2,r3⟩:=Wz hn.ok ((hpd q0 hq0).nx hn) am4 hop hR';rw [u3]at r1;injection r1 with r1;subst r1;rw [r3 w' (C6.refl w')]at u6;have hxu:x=u:=by grind
              subst hxu;exact hR'.amE r2
            ·intro a' w' ⟨_,G',hR'⟩ ha' hS';rw [Cb]at hS' ⊢;refine RR hst hdn hlz abz il hI0 hi0 hd0 hl0 n (v.set j true) pd a_ H' hn.ok (fun q hq=>(hpd q hq).nx hn) (IB hma) hq (fun H'' s n' q=>hK H'' s (hn.trans n') q) m _ D F a' w' G' ⟨⟨by simpa using h.hv,by simpa using h.hL,fun k=>?_,ajy,h.n1,h.n2,fun p hp'=>?_,h.ht,?_,hR'⟩,hS'⟩
             ·rw [Ds (by rw [h.hL];exact hil),Ds (by rw [h.hv];exact hil),h.hb,Bool.or_assoc]
             ·obtain⟨q1,q2,q3⟩:=h.hD p hp';have Tg:p.1 ≠ j:=(by grind);refine⟨q1,by rw [Ds (by rw [h.hv];exact hil),q2];grind,q3.move fun d' o' ho' hd'=>?_⟩;exact ha' d' (fun he=>HI hdn hi ho' (Ne.symm Tg) he hd' rfl) fun p2 op2 hp2 hc2 hd2=>by have hpp:p2 ≠ p.1:=(by grind [AeJ]);exact HI hdn hp2 ho' hpp hd2 hd' rfl
             ·have h1:=WA h.hv hil hiu;have h2:=h.hc;omega
           ·exact h.make hst hdn hlz hpd hck hi0 hw hma hun hj (h.other hp hok (hiD h) hj hji) (by grind)
        grind
       ·skip;have main: ∀ (m:Nat) (L:List Bool) (D:List (Nat×Nat)) (F:Fr) (a:Act) (w:World) (G:AF),Fx P ops pr lz F0 v st m L D F a w G->Eh P ops (fun e a' w'=>e= .normal /\ ∃ s G',PK s/\R F0 s a' w' G') pr lz m L.toArray a w:=by
         intro m;induction m with
         | zero=>
           intro L D F a w G h;have:=h.pos hil hiu (hiD h);omega
         | succ m ih=>
           intro L D F a w G h;have akE:=h.rdy hil akF (hiD h);refine⟨(by grind),fun j hj=>?_⟩;by_cases hji:j=i
           ·subst hji;have hI:F.I=I:=h.ht.alV.trans hI0;have ajy:=h.hdc.set hp akE;rw [Cb]at ajy;have hwp:=AcH abz hw (PK:=fun s=> ∃ H' a_,Nx H st H' a_/\Yx ops pr (v.set j true) pd a_=true/\Mk Γ rec ops pr lz il n (v.set j true) pd a_ R' K=some r/\s=a_.toSt) hr (by grind);have fresh: ∀ {a_:Af T} {p:Nat} {op:Oper},Yx ops pr (v.set j true) pd a_=true->ops[p]? =some op->DZ op=1->L.toArray.getD p false=true-> ¬Frc ops pr p (L.toArray.setIfInBounds j true)-> ∃ q∈pd,q.i=p/\sr a_ q=true:=by
             intro a_ p op hck hop hcp hpl hpf;simp only [Yx,all_eq_true,mem_range,or_eq_true,not_eq_true']at hck;have axy:p<ops.size:=(by grind);have hLp:(L.set j true).toArray.getD p false=true:=by grind [getD_set_true]
             have aFq:Oo ops p=1:=by grind [Oo]
             have hvp:bv (v.set j true) p=true:=by
              rw [GV,Ds (by rw [h.hL];exact hil),h.hb]at hLp;rw [Ds (by rw [h.hv];exact hil)];simp only [or_eq_true]at hLp ⊢;rcases hLp with q | q | q
              ·exact .inl q
              ·exact .inr q
              ·exfalso;obtain⟨b,hb⟩:=Pi.1 q;obtain⟨_,_,o',_,_,_,_,r1,r2,_⟩:=h.hD _ hb;grind [p9,nQ]
             rcases hck p axy with q | q | q | q
             ·grind
             ·simp_all
             ·exfalso;refine hpf ?_;simp only [vz,any_eq_true,mem_range,and_eq_true,beq_eq,Dd]at q;obtain⟨k,_,k1,k2,k3⟩:=q;refine⟨k,?_,k2,k3⟩;rw [Cb,GV,Ds (by rw [h.hL];exact hil),h.hb];rw [Ds (by rw [h.hv];exact hil)]at k1;grind
             simp_all
            refine nq hst hlz hi hc h.hdc hj h.hS (K:=fun a' w'=> ∃ H' a_ G',Nx H st H' a_/\Yx ops pr (v.set j true) pd a_=true/\Mk Γ rec ops pr lz il n (v.set j true) pd a_ R' K=some r/\R F a_.toSt a' w' G') ?_ ?_ ?_ ?_
            ·have:=O9 (Q:=fun e a' w'=>e= .normal /\ ∃ s G',PK s/\R F0 s a' w' G') h.hR (by rw [hI];exact hwp);have cv: ∀ a' w',ir F (fun s=> ∃ s',Wk s s'/\ ∃ H' a_,Nx H st H' a_/\Yx ops pr (v.set j true) pd a_=true/\Mk Γ rec ops pr lz il n (v.set j true) pd a_ R' K=some r/\s'=a_.toSt) a' w'-> ∃ H' a_ G',Nx H st H' a_/\Yx ops pr (v.set j true) pd a_=true/\Mk Γ rec ops pr lz il n (v.set j true) pd a_ R' K=some r/\R F a_.toSt a' w' G':=by rintro a' w' ⟨s,G1,⟨s',hwk,H',a_,k1,k2,k3,rfl⟩,hR1⟩;obtain⟨G2,hR2⟩:=hwk _ _ _ _ hR1;grind
             split at this
             ·rename_i hwt;rw [if_pos hwt];exact Oper.wp_mono cv this
             ·rename_i hwt;rw [if_neg hwt];exact cv _ _ this
            ·intro a' w' ⟨H',a_,G',hn,hck,_,hR'⟩ p op hop hcp hpl hpf _ _ _;obtain⟨q0,hq0,e0,am4⟩:=fresh hck hop hcp hpl hpf;subst e0;exact vn hn.ok ((hpd q0 hq0).nx hn) am4 hop hcp hR'
            ·intro a' w' a'' ⟨H',a_,G',hn,hck,hq,hR'⟩ ⟨p,op,d,u,u1,hop,u3,hpl,hpf,u6,ea⟩;subst ea;have hcp:=(JI hlz u1 hop).1;refine⟨H',a_,G',hn,hck,hq,?_⟩;have aqK:L.toArray.getD p false=true:=by grind [DO]
             obtain⟨q0,hq0,e0,am4⟩:=fresh hck hop hcp aqK hpf;subst e0;obtain⟨r1,x,_,r2,r3⟩:=Wz hn.ok ((hpd q0 hq0).nx hn) am4 hop hR';rw [u3]at r1;injection r1 with r1;subst r1;rw [r3 w' (C6.refl w')]at u6;have hxu:x=u:=by grind
             subst hxu;exact hR'.amE r2
            ·intro a' w' ⟨H',a_,G',hn,_,hq,hR'⟩ ha' hS';rw [Cb]at hS' ⊢;refine RR hst hdn hlz abz il hI0 hi0 hd0 hl0 n (v.set j true) pd a_ H' hn.ok (fun q hq=>(hpd q hq).nx hn) (IB hma) hq (fun H'' s n' q=>hK H'' s (hn.trans n') q) m _ D F a' w' G' ⟨⟨by simpa using h.hv,by simpa using h.hL,fun k=>?_,ajy,h.n1,h.n2,fun p hp'=>?_,h.ht,?_,hR'⟩,hS'⟩
             ·rw [Ds (by rw [h.hL];exact hil),Ds (by rw [h.hv];exact hil),h.hb,Bool.or_assoc]
             ·obtain⟨q1,q2,q3⟩:=h.hD p hp';have Tg:p.1 ≠ j:=(by grind);refine⟨q1,by rw [Ds (by rw [h.hv];exact hil),q2];grind,q3.move fun d' o' ho' hd'=>?_⟩;exact ha' d' (fun he=>HI hdn hi ho' (Ne.symm Tg) he hd' rfl) fun p2 op2 hp2 hc2 hd2=>by have hpp:p2 ≠ p.1:=(by grind [AeJ]);exact HI hdn hp2 ho' hpp hd2 hd' rfl
             ·have h1:=WA h.hv hil hiu;have h2:=h.hc;omega
           ·exact h.make hst hdn hlz hpd hck hi0 hw hma hun hj (h.other hp hok (hiD h) hj hji) (by grind)
        grind
      ·cases hr
     ·cases hr
    ·cases hr
def AgY:HA->Bool
 | .q .lz =>true
 | _=>false
def vH (ops:Array Oper) (il:Hl):List Nat:=match (List.range ops.size).any fun i=>match Mj il i with
    | .c _=>true
    | .j .. =>true
    | _=>false with
 | true=>(List.range ops.size).filter fun i=>PB ops [i]
 | false=>(List.range ops.size).filter fun i=>AgY (Mj il i)&&PB ops [i]
theorem vJ {ops:Array Oper} {il:Hl}:PB ops (vH ops il)=true:=by
 unfold vH;split
 ·grind [PB]
 ·unfold PB;grind
def AcI {P:Program} {I:World->Prop} (Γ:List (CE T P I)) (rec:sj T) (ops:Array Oper) (il:Hl) (pr:List (List Nat)) (st:Af T) (R:Type) (K:Af T->Option R):Option R:=match TC ops pr&&(Yv ops&&Yw P ops st)with
 | true=>Mk Γ rec ops pr (vH ops il) il ops.size (List.replicate ops.size false) [] (sv ops.toList st) R K
 | false=>none
theorem fH: ∀ (l:List Oper) {H:Ax T} {st:Af T},AI H st->(∃ H',Nx H st H' (sv l st))/\Wk st.toSt (sv l st).toSt
 | [],H,st,hw=>⟨⟨H,Nx.refl hw⟩,Wk.less (B8.refl _)⟩
 | o::r,H,st,hw=>by
   unfold sv;split
   ·obtain⟨H1,n1⟩:=Af.aai hw o.dst (v:= .u) (by simp only [DV.ok]);obtain⟨⟨H2,n2⟩,w2⟩:=fH r n1.ok;refine⟨⟨H2,n1.trans n2⟩,Wk.trans ?_ w2⟩;intro F a w G hR;refine⟨G,?_⟩;rw [Af.k_];cases hd:o.dst with
    | none=>exact hR
    | some d=>exact hR.aeS (by simp only [DV.toV,Ab])
   ·exact fH r hw
theorem yX (abL:P.follows .mixedOrders =true) (abz:kh P I rec) {il:Hl} {id:Nat} (hw:AI H st) {R':Type} {K:Af T->Option R'} {r:R'} (hr:AcI Γ rec ops il pr st R' K=some r) {F:Fr} (hI:F.I=I) {PK:St->Prop} {Q:Exit->St->Prop} (hPK: ∀ s,PK s->Q .normal s)
 (hK: ∀ H' a_,Nx H st H' a_->K a_=some r->PK a_.toSt):Ad P F (.region id ops true) st.toSt Q:=by
 unfold AcI at hr;split at hr
 ·rename_i hst;simp only [and_eq_true]at hst;obtain⟨hst,hdn,hma⟩:=hst;obtain⟨⟨H1,n1⟩,w1⟩:=fH ops.toList hw;refine Ad.wk w1 ?_;intro a w G hR;have hR':=hR.same (w':={w with drawn:=w.drawn+1}) ⟨rfl,rfl,rfl⟩ ⟨le_refl _,fun _ _=>rfl⟩;have hz: ∀ k,bv (List.replicate ops.size false) k=false:=(by grind [bv]);have hz2: ∀ k,(List.replicate ops.size false).toArray.getD k false=false:=fun k=>by rw [GV,hz]
  have hu:(yW ops.size (List.replicate ops.size false)).length <=ops.size:=by grind [yW]
  have key:=RR (pr:=pr) hst hdn vJ abz il hI hR.inv hR.aae hR.aaJ ops.size _ [] _ H1 n1.ok (by grind) (IB hma) hr (fun H' s n q=>hK H' s (n1.trans n) q) ops.size (List.replicate ops.size false) [] F a {w with drawn:=w.drawn+1} G
   (.mk ⟨(by simp),(by simp),(by grind),(fun k hk=>by rw [hz2]at hk;cases hk),List.nodup_nil,List.nodup_nil,(by grind),Ld.start F,(by grind),hR'⟩ (fun i o _ _ hl=>by rw [hz2]at hl;cases hl))
  have:=XP _ _ _ _ key;have h2:=wp_region_any (id:=id) abL (by simpa using this);grind [Code.wp_mono]
 ·cases hr
end
end Go.PL
