/- The pure logic: Tu6, Tu7, Tu8, Tu9, Tua, Tub, Tuc, Tx, Tud, Tp, Tw, PlYi, Tz, Tw2. -/
import Derived.Test.YthppcliidflkjaaGreatDoorPlYdtoTu5
import Derived.Test.YthppcliidflkjaaGreatDoorPlPftoPlYc
set_option linter.all false
set_option linter.all false
namespace Go.PL
open Go Go.RowKit
variable {T:AN}
def pe (d:Nat) (st:Ad T):M (Ad T):=match st.get d with
 | .c (.bs id E0 o n)=>match CJ st id with
   | some ⟨E,l⟩=>mIf (Nat.beq E0 E) (.opt (Fb (o=0∧n≤(l.length:Nat)∧0<l.length)) fun _=>match st.new id (.row E (l.take n.toNat))with
     | some s=> .ret (s.put (some d) (.c (.c (.osl id))))
     | none=> .no)
   | none=> .no
 | _=> .no
theorem kZ {H:Am T} {st:Ad T} (hw:Av H st) {d:Nat}:Yl (pe d st) (fun st'=>(∃ H',Nx H st H' st')∧st'.pre=st.pre∧Wk st.toSt st'.toSt):=by
 unfold pe
 split
 ·rename_i id E0 o n hs
  split
  ·rename_i E l hr
   refine Yl.mIf fun hg=>Yl.opt fun u hn=>?_
   have hg:=Nat.eq_of_beq_eq_true hg
   subst hg
   have hn:=BP hn
   have hok:=Ad.get_ok hw d
   rw [hs]at hok
   simp only [DV.ok,DC.ok]at hok
   split
   ·rename_i s hnew
    refine Yl.ret ?_
    obtain⟨⟨H1,n1⟩,h2,h3⟩:=Ad.new_spec hw (x:= .row E0 (l.take n.toNat)) trivial hnew
    obtain⟨H2,n2⟩:=Ad.put_spec n1 (some d) (v:= .c (.c (.osl id))) (by simp only [DV.ok,DC.ok])
    refine⟨⟨H2,n2⟩,by rw [AB];exact h3,fun F a w G hR=>?_⟩
    have hsl:=hR.slots d
    have hge:=st.get_toSt d
    rw [hs]at hge
    have hsl:Ab w G (st.toSt.get d) (a.tmps.getD d Go.undef):=hsl
    rw [hge]at hsl
    simp only [DV.toV,DC.toC,Ab,Ac]at hsl
    obtain⟨b1,len0,cap0,o1,cap1,x1,x2,x3,x4,x5⟩:=hsl
    obtain⟨v,v1,v2⟩:=hR.rowFacts hr
    rw [x1]at v1
    injection v1 with v1
    rcases v2 with ⟨p,_,v2⟩ | ⟨b,cap,cur,q,v3,v4,v5,v6,v7,v8⟩
    ·omega
    rw [q]at v1
    injection v1 with k1 k2 k3
    injection k1 with k1
    injection k1 with k1
    subst k1 k2 k3
    have ho1:o1=0:=by grind
    have hc1:cap1=cap0:=by grind
    subst ho1 hc1
    have hpure:Aj ((l.take n.toNat).flatMap (T.enc E0))=true:=Cc _ (fun y=>by have:=Cv (T:=T) (.s E0) y;grind [DZ,V.pure]) _
    have hlt:b1<w.heap.size:=(by grind)
    have hset:=hR.set ⟨id,some (E0,T.sz E0,(l.take n.toNat).length),(l.take n.toNat).flatMap (T.enc E0),true⟩ (some b1) (some (a.tmps.getD d Go.undef)) ⟨rfl,rfl,rfl⟩ (Nat.le_refl _) (fun _ _ _=>rfl) (fun _ _ _=>rfl) (fun b' hb'=>by
     injection hb' with hb';subst hb'
     exact⟨.inr ⟨v3,Bt.same rfl⟩,hlt⟩) (fun _=>hpure) (by
     refine FK (Ak.kill_row _ _) ⟨?_,a.tmps.getD d Go.undef,by simp [Bo,Ak.kill_id], .inr ⟨b1,cap1,cur,?_,by simp [Bo,Ak.kill_id],v4,?_,v6,v7,?_⟩⟩
     ·show ((l.take n.toNat).flatMap (T.enc E0)).length =_
      grind [PW,AA]
     ·grind
     ·grind
     ·show Ai w (Bo F G id (some b1) (some (a.tmps.getD d Go.undef))) ((l.take n.toNat).flatMap (T.enc E0)) b1 0
      have hk:=hR.keeps id (some b1) (some (a.tmps.getD d Go.undef)) (by grind) (fun _ _ _=>rfl) (fun b' hb'=>by injection hb' with hb';subst hb';exact .inr ⟨v3,Bt.same rfl⟩)
      have:=v8.take (n.toNat*T.sz E0)
      rw [Er (fun y=>AA E0 y)]at this
      exact Ai.mono hk _ _ _ (fun i hi=>absurd (show Bd i ((l.take n.toNat).flatMap (T.enc E0))=true from hi) (by rw [AE i _ hpure];simp)) (fun _=>rfl) this)
    have hl:=hset.less h2
    refine⟨Bo F G id (some b1) (some (a.tmps.getD d Go.undef)),?_⟩
    rw [Ad.put_toSt]
    exact hl.reslot (by simp only [DV.toV,DC.toC,Ab,Ac];exact⟨by simp [Bo],by rw [x2];rfl⟩)
   ·exact Yl.no
  ·exact Yl.no
 ·exact Yl.no
def ou (r:Ae) (st:Ad T):Option (Ad T):=match CJ st r with
 | some ⟨E,l⟩=>some (AO [(1000003::r, .deep E 0 l none)] (st.killF (fun i=>match AG i r with | true=>true | false=>match AG i (1000003::r)with | true=>true | false=>GN.ofDT (1000003::r) i)))
 | none=>none
def ov (d:Nat) (st:Ad T):M (Ad T):=match st.get d with
 | .c x=>match Ir x with
   | some r=>match ou r st with
     | some s=> .ret (s.put (some d) (.c (.c (.osl (1000003::r)))))
     | none=> .no
   | none=> .no
 | _=> .no
theorem PX (E:Nat): ∀ (k:Int) (l:List (T.den E)),0≤k→As T E 0 k l=l.flatMap (T.enc E)
 | _,[],_=>rfl
 | k,x::l,h=>by rw [As,if_neg (by omega),PX E (k+1) l (by omega),List.flatMap_cons]
theorem ig (E:Nat) (x:T.den E):(T.enc E x).all W9=true:=by
 rw [←T.encok]
 have: ∀ (ks:List Kd) (y:DK T.den ks),(Bf T.enc ks y).all W9=true:=by
  intro ks
  induction ks with
  | nil=>intro _;rfl
  | cons k ks ih=>
    intro y
    simp only [Bf,List.all_cons,Bool.and_eq_true]
    exact⟨by cases k<;>rfl,ih y.2⟩
 grind
theorem Wo {H:Am T} {st s:Ad T} (hw:Av H st) {r:Ae} (h:ou r st=some s):(∃ H',Nx H st H' s)∧s.pre=st.pre∧ ∀ (F:Fr) (a:Act) (w:World) (G:Au),R F st.toSt a w G→ ∃ G',R F s.toSt a w G'∧G'.own (1000003::r)=G.own r:=by
 unfold ou at h
 split at h
 ·rename_i E l hr
  injection h with h
  subst h
  have hp:(fun i=>match AG i r with | true=>true | false=>match AG i (1000003::r)with | true=>true | false=>GN.ofDT (1000003::r) i)=(fun i=>i==r||(i==1000003::r||CI (1000003::r) i)):=by
   grind [BJ,GC]
  rw [hp]
  obtain⟨⟨H1,n1⟩,k1,k2,k3,k4,k5⟩:=Ad.killF_spec hw (fun i=>i==r||(i==1000003::r||CI (1000003::r) i))
  obtain⟨H2,n2⟩:=FB (l:=[(1000003::r,DX.deep E 0 l none)]) n1 (fun p hp=>by rcases List.mem_singleton.1 hp with rfl;trivial) (by simp) (fun p hp e he q=>by
   grind)
  obtain⟨s1,s2,s3,s4,s5,_⟩:=C3 [(1000003::r,DX.deep E 0 l none)] (st.killF (fun i=>i==r||(i==1000003::r||CI (1000003::r) i)))
  refine⟨⟨H2,n2⟩,by grind,fun F a w G hR=>?_⟩
  obtain⟨q1,_,e,q2,q3,q4⟩:=Be hr
  obtain⟨G',g1,g2⟩:=hR.deepen q1 rfl rfl (by
   grind [ig]) (id:=1000003::r) rfl rfl
  refine⟨G',?_,g2⟩
  have hless:Bk (st.toSt.killP (fun i=>i==r||(i==1000003::r||CI (1000003::r) i)) (⟨1000003::r,some (E,T.sz E,l.length),l.flatMap (T.enc E),true⟩::((st.toSt.so.filter (fun d=>d.id != r&&d.id != 1000003::r)).map (Ak.killP (fun i=>i==r||(i==1000003::r||CI (1000003::r) i))))))
   (AO [(1000003::r,DX.deep E 0 l none)] (st.killF (fun i=>i==r||(i==1000003::r||CI (1000003::r) i)))).toSt :=by
   refine GD ?_ ?_ ?_ (Dl n2.ok) ?_
   ·have:(AO [(1000003::r,DX.deep E 0 l none)] (st.killF (fun i=>i==r||(i==1000003::r||CI (1000003::r) i)))).toSt.tm =(st.killF (fun i=>i==r||(i==1000003::r||CI (1000003::r) i))).toSt.tm :=by grind [Ad.toSt]
    rw [this];exact k1
   ·have:(AO [(1000003::r,DX.deep E 0 l none)] (st.killF (fun i=>i==r||(i==1000003::r||CI (1000003::r) i)))).toSt.gh =(st.killF (fun i=>i==r||(i==1000003::r||CI (1000003::r) i))).toSt.gh :=by simp only [Ad.toSt,s2]
    rw [this];exact k2
   ·intro z hz
    rw [s5]at hz
    simp only [List.map_cons,List.map_nil,List.singleton_append,List.mem_cons]at hz
    simp only [St.killP,List.mem_cons,List.mem_map,List.mem_filter]
    rcases hz with rfl | hz
    ·left
     show (⟨1000003::r,some (E,T.sz E,l.length),As T E 0 0 l,true⟩:Ak)=_
     simp_all [PX]
    grind
   ·show (AO _ _).pre =st.pre
    grind
  exact g1.less hless
 ·cases h
theorem dV {H:Am T} {st:Ad T} (hw:Av H st) {d:Nat}:Yl (ov d st) (fun st'=>(∃ H',Nx H st H' st')∧st'.pre=st.pre∧Wk st.toSt st'.toSt):=by
 unfold ov
 split
 ·rename_i x hs
  split
  ·rename_i r ho
   have:=Dt ho
   subst this
   split
   ·rename_i s hr
    obtain⟨⟨H2,n2⟩,p2,k2⟩:=Wo hw hr
    obtain⟨H3,n3⟩:=Ad.put_spec n2 (some d) (v:= .c (.c (.osl (1000003::r)))) (by simp only [DV.ok,DC.ok])
    refine Yl.ret ⟨⟨H3,n3⟩,by rw [AB,p2],fun F a w G hR=>?_⟩
    have hsl:Ab w G (st.toSt.get d) (a.tmps.getD d Go.undef):=hR.slots d
    rw [st.get_toSt d,hs]at hsl
    simp only [DV.toV,DC.toC,Ab,Ac]at hsl
    obtain⟨G',g1,g2⟩:=k2 F a w G hR
    refine⟨G',?_⟩
    rw [Ad.put_toSt]
    exact g1.reslot (by simp_all [DV.toV,DC.toC,Ab,Ac])
   ·exact Yl.no
  ·exact Yl.no
 ·exact Yl.no
def X2 (id:Ae) (E:Nat) (l:List (T.den E)) (c:DC T):DC T:=match Ir c with
 | some i=>match AG i id with
   | true=> .k (.lst E) l
   | false=>HN (fun i=>match AG i id with | true=>true | false=>GN.ofDT id i) c
 | none=>HN (fun i=>match AG i id with | true=>true | false=>GN.ofDT id i) c
def PY (id:Ae) (E:Nat) (l:List (T.den E)):DV T→DV T
 | .c x=> .c (X2 id E l x)
 | .agg cs=> .agg (cs.map (X2 id E l))
 | _=> .u
def X3 (id:Ae) (E:Nat) (l:List (T.den E)):DX T→DX T
 | .box cs=> .box (cs.map (X2 id E l))
 | x=>x
def oz (id i:Ae):Bool:=match AG i id with
 | true=>true
 | false=>GN.ofDT id i
theorem dW (id:Ae):oz id=pF id:=by
 grind [oz,pF,BJ,GC]
def Ad.frzD (st:Ad T) (id:Ae):Option (Ad T):=match Db id with
 | false=>none
 | true=>match FZ st id with
   | some ⟨E,(_,l,none)⟩=>some (let s:=st.remap (DV.menP (oz id)) (PY id E l) (DX.menP (oz id)) (X3 id E l);{s with so:=s.so.filter fun e=> !(AG e.id id)})
   | _=>none
theorem PZ (id:Ae) (E:Nat) (l:List (T.den E)) (c:DC T):(X2 id E l c).toC =LT id l.length (l.flatMap (T.enc E)) c.toC:=by
 have hp:(fun i=>match AG i id with | true=>true | false=>GN.ofDT id i)=pF id:=dW id
 unfold X2
 rw [hp]
 split
 ·rename_i i ho
  have:=Dt ho
  grind [Az,DC.toC,AQ,YQ,Iz,NT]
 grind [Iz,NT,HI]
theorem Zm {id:Ae} {E:Nat} {l:List (T.den E)} {c:DC T} (h:c.ok):(X2 id E l c).ok :=by
 grind [X2,DC.ok,PO]
theorem N0 {id:Ae} {n:Nat} {ds:List C}: ∀ {l:List C},BF (pF id) l=false→l.map (LT id n ds)=l
 | [],_=>rfl
 | c::l,h=>by
   simp only [BF,Bool.or_eq_false_iff]at h
   rw [List.map_cons,N0 h.2,NT,Bx,if_neg (by simp [h.1])]
   grind [C.menP,pF]
theorem ii {id:Ae} {n:Nat} {ds:List C} {v:V} (h:v.menP (pF id)=false):I8 id n ds v=v:=by
 cases v with
 | c x=>
   have:=N0 (n:=n) (ds:=ds) (l:=[x]) (by simpa [BF,V.menP] using h)
   grind [I8]
 | agg cs=>grind [I8,N0,V.menP]
 | tup vs=>exact IY h
 | g b x=>exact IY h
 | undef=>exact IY h
theorem Ub (id:Ae) (l:List (DE T)):(l.filter fun e=> !(AG e.id id)).map DE.toE=(l.map DE.toE).filter (fun d=>d.id != id):=filter_toE' id l
theorem bc {H:Am T} {st st':Ad T} {id:Ae} (h:Av H st) (hk:st.frzD id=some st'):(∃ H',Nx H st H' st')∧Wk st.toSt st'.toSt∧st'.pre=st.pre:=by
 unfold Ad.frzD at hk
 split at hk
 ·cases hk
 ·rename_i hd
  split at hk
  ·rename_i E n l hr
   injection hk with hk
   subst hk
   rw [dW]
   obtain⟨H',hN⟩:=Ad.remap_nx (p:=DV.menP (pF id)) (f:=PY id E l) (q:=DX.menP (pF id)) (g:=X3 id E l) h (fun {H n v} hv=>by
    cases v<;>grind [PY,DV.ok,Zm,K7]) (fun {x} hx=>by
    cases x<;>grind [X3,DX.ok,K7,Zm])
   refine⟨⟨H',hN.ext,hN.le,CX hN.ok _⟩,fun F a w G hR=>?_,rfl⟩
   obtain⟨hmk,_,e,e1,e2,e3⟩:=Bl hr
   have hE:e.toE=⟨id,some (E,T.sz E,l.length),As T E n 0 l,true⟩:=by unfold DE.toE;rw [e3,e2];rfl
   have hL:st.toSt.lookD id=some e.toE:=hR.lookD_of (List.mem_map.2 ⟨e,e1,rfl⟩) (by rw [hE]) hd
   obtain⟨G',g⟩:=hR.freezeD hL (by rw [hE]) (cells:=l.flatMap (T.enc E)) (by grind [PR])
   refine⟨G',g.less ?_⟩
   have f1: ∀ v:DV T,v.menP (pF id)=true→(PY id E l v).toV = .undef ∨(PY id E l v).toV =I8 id l.length (l.flatMap (T.enc E)) v.toV:=fun v _=>by
    cases v with
    | c x=>grind [PY,DV.toV,I8,PZ]
    | agg cs=>
      right
      simp only [PY,DV.toV,I8,BB,List.map_map]
      grind [List.map_congr_left,PZ]
    | _=>grind [PY,DV.toV]
   have f2: ∀ v:DV T,v.menP (pF id)=false→I8 id l.length (l.flatMap (T.enc E)) v.toV=v.toV:=(by grind [ii,DV.menP_le])
   have sl: ∀ (m n:Nat) (tm:Tm T),Fw ((At m tm).map (I8 id l.length (l.flatMap (T.enc E)))) (At m (I9 (DV.menP (pF id)) (PY id E l) n tm)):=fun m n tm=>by
    unfold At
    rw [List.map_map]
    refine Fw.map fun i _=>?_
    simp only [Function.comp,HF (p:=DV.menP (pF id)) (f:=PY id E l) (by simp [DV.menP])]
    grind
   have gl: ∀ (g:List (Nat×Tm T)) (n:Nat),Fw ((g.flatMap fun f=>At f.1 f.2).map (I8 id l.length (l.flatMap (T.enc E)))) ((JG (DV.menP (pF id)) (PY id E l) n g).flatMap fun f=>At f.1 f.2):=by
    intro g
    induction g with
    | nil=>intro _;trivial
    | cons x r ih=>
      intro n
      obtain⟨m,tm⟩:=x
      simp only [JG,List.flatMap_cons,List.map_append]
      exact(sl m n tm).append (ih _)
   refine GD (sl _ _ _) (gl _ _) ?_ (Dl (CX hN.ok _)) rfl
   intro z hz
   have hz:z∈((JH (DX.menP (pF id)) (X3 id E l) (st.nx+st.tm.length+HX st.gh) st.so).filter fun e=> !(AG e.id id)).map DE.toE:=hz
   have hF: ∀ x∈st.so,(DX.menP (pF id) x.x=true→ ∀ t,(⟨x.id,t,X3 id E l x.x⟩:DE T).toE =Ak.frD id l.length (l.flatMap (T.enc E)) x.toE)∧(DX.menP (pF id) x.x=false→Ak.frD id l.length (l.flatMap (T.enc E)) x.toE=x.toE):=by
    intro x _
    have base: ∀ t,(⟨x.id,t,X3 id E l x.x⟩:DE T).toE =Ak.frD id l.length (l.flatMap (T.enc E)) x.toE:=fun t=>by
     unfold DE.toE
     cases hxx:x.x with
     | box cs=>
       simp only [X3,Ak.frD,BB,List.map_map,Ak.mk.injEq,and_true,true_and]
       grind [List.map_congr_left,PZ]
     | row E l=>rfl
     | deep E n l h=>rfl
    grind [DE.toE,DX.menP,DP,Ak.frD,N0]
   rw [Ub,Im (F:=Ak.frD id l.length (l.flatMap (T.enc E))) _ hF]at hz
   obtain⟨h1,h2⟩:=List.mem_filter.1 hz
   obtain⟨d,h3,rfl⟩:=List.mem_map.1 h1
   refine List.mem_map.2 ⟨d,List.mem_filter.2 ⟨h3,?_⟩,rfl⟩
   have:(Ak.frD id l.length (l.flatMap (T.enc E)) d).id =d.id:=by obtain⟨i,r,cs,_ | _⟩:=d<;>rfl
   grind
  ·cases hk
end Go.PL
namespace Go.PL
open Go Go.RowKit
variable {T:AN}
theorem JZ: ∀ {vs:List Value} {l:List C},CD vs=some l→ ∀ v∈vs,(BK v).isSome =true
 | [],_,_,v,hv=>by cases hv
 | x::vs,l,h,v,hv=>by
   unfold CD at h
   split at h
   ·rename_i c cs h1 h2
    rcases List.mem_cons.1 hv with rfl | hv
    ·rw [h1];rfl
    ·exact JZ h2 v hv
   ·cases h
theorem Wp {P:Program} {st:St} {w:World} {G:Au} {d:Nat} {t:TypeId} {l c:V} {u v:Value} (hx:Ab w G l u) (hy:Ab w G c v) (hs:(Gu P st d t l c).1) {r:Value} {w':World} (hr:(Instr.makeSlice t u v).run P w= .ok r w'):
 ∃ len cap,r= .slice (some ⟨w.heap.size,0,none⟩) len cap∧ ∀ k v,w'.cell? ⟨w.heap.size,k,none⟩=some v→(BK v).isSome =true:=by
 unfold Gu at hs
 split at hs
 ·rename_i k1 l k2 c E n by' hsel
  split at hs
  ·rename_i z hz
   obtain⟨h0,h1,h2,h3,h4,h5⟩:=hs
   obtain⟨i,zv,hu,hi,hzv,hsz,hby,hzs⟩:=A8 hsel
   obtain⟨i',zv',hi',hzv',hc⟩:=El hz
   rw [hi]at hi';injection hi' with hi';subst hi'
   rw [hzv]at hzv';injection hzv' with hzv';subst hzv'
   have hM:maxLen=9223372036854775807:=rfl
   simp only [Ab,Ac]at hx hy
   subst hx hy
   have hrun:=run_make (P:=P) w t E i zv hu hi hzv k1 k2 l c h0 h1 (by rw [hby,Int.mul_comm];omega) (by omega)
   rw [hrun]at hr
   injection hr with hr1 hr2
   subst hr1 hr2
   refine⟨_,_,rfl,fun k v hv=>?_⟩
   have hall:=JZ hc
   have hcell:(madeCells zv.cells (c.toNat*i.size))[k]? =some v:=by
    simp_all
   have hk:k<c.toNat*i.size:=by
    grind [madeCells]
   have hz0:0<zv.cells.size:=by
    grind
   grind [madeCells,Nat.mod_lt]
  grind
 grind
theorem k9 {w:World} {G:Au} {n:Nat} {cs:List C} {v:Value} (h:Ac w G (.sl n cs) v) (hc:(BK v).isSome =true):v= .slice none 0 0∧n=0∧cs=[]:=by
 simp only [Ac]at h
 obtain⟨_,a,cap,rfl,h1,_,h3,_⟩:=h
 unfold BK at hc
 grind
theorem P0: ∀ {ks:List Kd} {y:DK T.den ks} {p:Nat} {c:C},(Ba T ks y)[p]? =some c→(∃ F n cs,c= .isl F (T.sz F) n cs∧(Bf T.enc ks y)[p]? =some (.sl n cs))∨((Bf T.enc ks y)[p]? =some c∧W9 c=true)
 | [],_,_,_,h=>by simp [Ba]at h
 | k::ks,y,0,c,h=>by
   simp only [Ba,List.getElem?_cons_zero,Option.some.injEq]at h
   simp only [Bf,List.getElem?_cons_zero,Option.some.injEq]
   cases k with
   | lst F=>exact .inl ⟨F,_,_,h.symm,rfl⟩
   | int _=>exact .inr ⟨h,by rw [←h];rfl⟩
   | bool=>exact .inr ⟨h,by rw [←h];rfl⟩
   | str=>exact .inr ⟨h,by rw [←h];rfl⟩
 | k::ks,y,p+1,c,h=>by
   simp only [Ba,List.getElem?_cons_succ]at h
   simp only [Bf,List.getElem?_cons_succ]
   exact P0 h
theorem P1 {E:Nat} {n:Int}: ∀ {l:List (T.den E)} {k:Int} {j:Nat} {c:C},k+l.length≤n→(As T E n k l)[j]? =some c→(∃ F m cs,c= .isl F (T.sz F) m cs∧(l.flatMap (T.enc E))[j]? =some (.sl m cs))∨((l.flatMap (T.enc E))[j]? =some c∧W9 c=true)
 | [],_,_,_,_,h=>by simp [As]at h
 | x::l,k,j,c,hn,h=>by
   simp only [As,List.length_cons]at h hn
   rw [if_pos (by omega)]at h
   have hl:(T.denc E x).length =(T.enc E x).length :=by
    unfold AN.denc
    rw [←T.encok]
    have: ∀ (ks:List Kd) (y:DK T.den ks),(Ba T ks y).length =(Bf T.enc ks y).length :=by
     intro ks
     induction ks<;>grind [Ba,Bf]
    grind
   rw [List.flatMap_cons]
   by_cases hj:j<(T.denc E x).length
   ·rw [List.getElem?_append_left hj]at h
    rw [List.getElem?_append_left (by omega), ←T.encok]
    exact P0 h
   ·rw [List.getElem?_append_right (by omega)]at h
    rw [List.getElem?_append_right (by omega), ←hl]
    exact P1 (by omega) h
theorem Lf {E:Nat} {n:Int}: ∀ (l:List (T.den E)) (k:Int),Aj (As T E n k l)=true
 | [],_=>rfl
 | x::l,k=>by
   rw [As,Bb,Lf l (k+1),Bool.and_true]
   split
   ·exact ba E x
   ·have:=Cv (T:=T) (.s E) x
    grind [DZ,V.pure]
def la:Int→Bool
 | .ofNat 0=>true
 | _=>false
theorem be {n:Int} (h:la n=true):n=0:=by
 grind [la]
def ij (P:Program) (o:Oper) (st:Ad T) (d:Nat):M (Ad T):= .bnd (aI P st o) fun st1=> .bnd (ov d st1) fun st2=>match st2.get d with
    | .c (.c (.osl id))=>match FZ st2 id with
      | some ⟨E,(nn,l,none)⟩=>mIf (Db id&&(Nat.blt d st2.m&&la nn)) (.opt (Fb (0<l.length)) fun _=> .ret ((st2.killF (GN.ofDT id)).setX id (.deep E (List.length l:Nat) l none)))
      | _=> .no
    | _=> .no
def X4:DC T→Bool
 | .k (.lst _) _=>false
 | .k _ _=>true
 | .c .nils =>true
 | _=>false
def ik:List (DC T)→Bool
 | []=>true
 | c::r=>X4 c&&ik r
def Mo:List (Nat×DV T)→Bool
 | []=>true
 | (_, .agg cs)::r=>ik cs&&Mo r
 | _=>false
def dmk (P:Program) (o:Oper) (st:Ad T):M (Ad T):=match o.op,o.dst with
 | .makeSlice _ _ _,some d=>ij P o st d
 | .buildSlice _ _ ps,some d=>match Eu st [] ps.toList with
   | some vs=>mIf (Mo vs) (ij P o st d)
   | none=> .no
 | _,_=> .no
theorem P2 {place:Nat→Option (Nat×Nat)}: ∀ {qs:List (Nat×Value)} {arr out:Array Value},Instr.fill place arr qs=some out→(∀ v∈arr.toList,(BK v).isSome =true)→(∀ q∈qs, ∀ v∈q.2.cells.toList,(BK v).isSome =true)→ ∀ v∈out.toList,(BK v).isSome =true
 | [],arr,out,h,ha,_=>by
   simp only [Instr.fill,Option.some.injEq]at h
   subst h;exact ha
 | (i,v)::r,arr,out,h,ha,hq=>by
   simp only [Instr.fill]at h
   split at h
   ·cases h
   ·rename_i off size hp
    split at h
    ·cases h
    ·rename_i hb
     refine P2 h (fun u hu=>?_) (fun q hq'=>hq q (by simp [hq']))
     have e:=LM v.cells.toList off 0 arr (by simp at hb ⊢;omega)
     rw [←Array.foldl_toList,Array.toList_zipIdx,e]at hu
     rcases List.mem_append.1 hu with hu | hu
     ·rcases List.mem_append.1 hu with hu | hu
      ·exact ha u (List.mem_of_mem_take hu)
      ·exact hq (i,v) (by simp) u hu
     ·exact ha u (List.mem_of_mem_drop hu)
theorem X5 {w:World} {G:Au} {c:DC T} {v:Value} (h:X4 c=true) (hr:Ac w G c.toC v):(BK v).isSome =true:=by
 unfold X4 at h
 split at h
 ·cases h
 ·rename_i kd x _
  cases kd<;>simp only [DC.toC,AQ,Ac]at hr<;>first | (subst hr;rfl) | (rename_i hne;exact(hne _ _ rfl).elim) | grind
 ·simp only [DC.toC,Ac]at hr
  subst hr;rfl
 ·cases h
theorem Wq {w:World} {G:Au}: ∀ {cs:List (DC T)} {vs:List Value},ik cs=true→Ag w G (Al cs) vs→ ∀ v∈vs,(BK v).isSome =true
 | [],[],_,_,v,hv=>by cases hv
 | [],_::_,_,h,_,_=>by simp [Al,Ag]at h
 | _::_,[],_,h,_,_=>by simp [Al,Ag]at h
 | c::cs,u::us,hd,h,v,hv=>by
   simp only [ik,Bool.and_eq_true]at hd
   simp only [Al,Ag]at h
   rcases List.mem_cons.1 hv with rfl | hv
   ·exact X5 hd.1 h.1
   ·exact Wq hd.2 h.2 v hv
theorem Np {w:World} {G:Au}: ∀ {ps:List (Nat×DV T)} {qs:List (Nat×Value)},Mo ps=true→H5 w G (VU ps) qs→ ∀ q∈qs, ∀ v∈q.2.cells.toList,(BK v).isSome =true
 | [],[],_,_,q,hq=>by cases hq
 | [],_::_,_,h,_,_=>by simp [VU,H5]at h
 | (i,x)::ps,[],_,h,_,_=>by simp [VU,H5]at h
 | (i,x)::ps,(j,u)::qs,hc,h,q,hq=>by
   simp only [VU,List.map_cons,H5]at h
   cases x with
   | agg cs=>
     simp only [Mo,Bool.and_eq_true]at hc
     rcases List.mem_cons.1 hq with rfl | hq
     ·simp only [DV.toV,Ab]at h
      obtain⟨_,⟨arr,rfl,h2⟩,_⟩:=h
      exact Wq hc.1 h2
     ·exact Np (ps:=ps) hc.2 h.2.2 q hq
   | _=>simp [Mo]at hc
def pf (P:Program) (st:St) (o:Oper):Prop:= ∀ (F:Fr) (a:Act) (w:World) (G:Au),R F st a w G→(ef P st o).1→ ∃ len cap w0,(execOp a.eval o).run P w= .ok (.value (.slice (some ⟨w.heap.size,0,none⟩) len cap)) w0∧ ∀ k v,w0.cell? ⟨w.heap.size,k,none⟩=some v→(BK v).isSome =true
theorem dX {P:Program} {st:St} {o:Oper} {t:TypeId} {lo co:Operand} {d:Nat} (hop:o.op= .makeSlice t lo co) (hd:o.dst=some d):pf P st o:=by
 intro F a w G hR e1
 have hmake:(Gu P st d t (st.arg true lo).2 (st.arg true co).2).1∧(st.arg true lo).1∧(st.arg true co).1:=by
  grind [ef]
 have hx:=hR.arg rfl hmake.2.1
 have hy:=hR.arg rfl hmake.2.2
 obtain⟨r0,w0,G0,m1,_⟩:=MK (d:=d) hR hx hy hmake.1
 obtain⟨len,cap,rfl,hcells⟩:=Wp hx hy hmake.1 m1
 exact⟨len,cap,w0,by simp [execOp,hop,m1],hcells⟩
theorem bg {H:Am T} {P:Program} {st:Ad T} (hw:Av H st) {o:Oper} {t:TypeId} {len:Nat} {ps:Array (Nat×Operand)} {d:Nat} {vs:List (Nat×DV T)} (hop:o.op= .buildSlice t len ps) (hd:o.dst=some d) (hp:Eu st [] ps.toList=some vs) (hc:Mo vs=true):pf P st.toSt o:=by
 intro F a w G hR e1
 have hs:(AI P st.toSt d t len ps.toList).1:=by
  obtain⟨dst,op,ty,pos,aft,gd⟩:=o
  simp only at hop hd
  subst hop hd
  exact e1
 unfold AI at hs
 split at hs
 ·rename_i E n by' hsel
  split at hs
  ·rename_i z hz
   split at hs
   ·rename_i cs hf
    obtain⟨h1,h2,h3,h4⟩:=hs
    obtain⟨i,zv,hu,hi,hzv,hsz,hby,hzs⟩:=A8 hsel
    obtain⟨i',zv',hi',hzv',hcz⟩:=El hz
    rw [hi]at hi';injection hi' with hi';subst hi'
    rw [hzv]at hzv';injection hzv' with hzv';subst hzv'
    have hzr:=GZ (Dp (w:=w) (G:=G) hcz) (by omega) len
    obtain⟨arr',q1,q2⟩:=FM hf (IP (hR.parts rfl h1)) hzr
    have q1':Instr.fill (fun i=>some (i*n,n)) ((Array.range (len*n)).map (zv.cells[· % zv.cells.size]!)) (ps.map fun(i,x)=>(i,a.eval x)).toList =some arr':=by
     simp_all
    have hrp:H5 w G (VU vs) (ps.map fun(i,x)=>(i,a.eval x)).toList :=by
     obtain⟨_,_,p3⟩:=DI (key:=[]) hw (fun _ hl=>by cases hl) rfl hp
     change (st.toSt.parts true ps.toList).2=VU vs at p3
     have:=hR.parts rfl h1
     rw [p3]at this
     rw [Array.toList_map]
     exact this
    have hz0:0<zv.cells.size:=by grind
    have hall:=JZ hcz
    have hconst:=P2 q1' (fun v hv=>by
     simp only [Array.toList_map,Array.toList_range,List.mem_map,List.mem_range]at hv
     obtain⟨k,_,rfl⟩:=hv
     have hlt:k % zv.cells.size<zv.cells.size:=Nat.mod_lt _ hz0
     rw [getElem!_pos zv.cells _ hlt]
     exact hall _ (by simp)) (Np hc hrp)
    have hrun:=run_buildSlice' (P:=P) (w:=w) (ps:=ps.map fun(i,x)=>(i,a.eval x)) hu hi hzv hsz h3 h4 q1'
    refine⟨len,len,w.alloc (.cells arr' E),by simp [execOp,hop,hrun],fun k v hv=>?_⟩
    have hcell:arr'[k]? =some v:=by
     simp_all
    exact hconst v (by grind)
   ·exact hs.elim
  ·exact hs.elim
 ·exact hs.elim
theorem Zn {H:Am T} {P:Program} {I:World→Prop} {st:Ad T} (hw:Av H st) {o:Oper} {d:Nat} (hd:o.dst=some d) (hmk:pf P st.toSt o):Yl (ij P o st d) (fun st'=>(∃ H',Nx H st H' st')∧st'.pre=st.pre∧ ∀ K:St→Prop,K st'.toSt→Dk P I o st.toSt K):=by
 unfold ij
 ·refine Yl.bnd (NX hw o) fun st1 h1=>?_
  obtain⟨⟨H1,n1⟩,e1,e2,p1⟩:=h1
  refine Yl.bnd (dV n1.ok) fun st2 h2=>?_
  obtain⟨⟨H2,n2⟩,p2,w2⟩:=h2
  split
  ·rename_i id hg
   split
   ·rename_i E nn l hdr
    refine Yl.mIf fun hb=>Yl.opt fun u hu=>Yl.ret ?_
    simp only [Bool.and_eq_true,Nat.blt_eq]at hb
    obtain⟨hb1,hb2,hb3⟩:=hb
    have hnn:=be hb3
    subst hnn
    have hlen:0<l.length:=BP hu
    have hp:(GN.ofDT id)=CI id:=funext fun i=>GC id i
    rw [hp]
    obtain⟨⟨H3,n3⟩,k1,k2,k3,k4,k5⟩:=Ad.killF_spec n2.ok (CI id)
    obtain⟨H4,n4⟩:=Ad.setX_nx n3.ok id (x:= .deep E (List.length l:Nat) l none) trivial
    refine⟨⟨H4,((n1.trans n2).trans n3).trans n4⟩,by show (st2.killF (CI id)).pre =st.pre;grind,fun K hK F a w G Q hI hR=>?_⟩
    obtain⟨len,cap,w0,hrun,hcells⟩:=hmk F a w G hR e1
    obtain⟨nx,w',G1,q1,q2⟩:=(KB hR e1).out
    rw [hrun]at q1
    injection q1 with q1 q1'
    subst q1 q1'
    have hR1:R F st1.toSt (a.put (some d) (.slice (some ⟨w.heap.size,0,none⟩) len cap)) w0 G1:=by
     rcases q2 with ⟨v,e,q⟩ | ⟨e,_⟩
     ·injection e with e;subst e;rw [hd]at q;exact q.less e2
     ·cases e
    obtain⟨G2,hR2⟩:=w2 _ _ _ _ hR1
    have hsl:Ab w0 G2 (st2.toSt.get d) ((a.put (some d) (.slice (some ⟨w.heap.size,0,none⟩) len cap)).tmps.getD d Go.undef):=hR2.slots d
    rw [st2.get_toSt d,hg]at hsl
    have hsz:d<a.tmps.size:=by
     have:=hR2.size
     simp only [Act.put,Array.size_setIfInBounds]at this
     rw [this]
     show d<(At st2.m st2.tm).length
     rw [AS];exact hb2
    have hpv:(a.put (some d) (.slice (some ⟨w.heap.size,0,none⟩) len cap)).tmps.getD d Go.undef= .slice (some ⟨w.heap.size,0,none⟩) len cap:=by
     simp_all [Act.put]
    rw [hpv]at hsl
    simp only [DV.toV,DC.toC,Ab,Ac]at hsl
    obtain⟨hmk',hlr,e,he1,he2,he3⟩:=Bl hdr
    have hE:e.toE=⟨id,some (E,T.sz E,l.length),l.flatMap (T.enc E),true⟩:=by
     simp_all [DE.toE,AP,PX]
    have hm:e.toE∈st2.toSt.so:=List.mem_map.2 ⟨e,he1,rfl⟩
    have hL:st2.toSt.lookD id=some e.toE:=hR2.lookD_of hm (by rw [hE]) hb1
    have hblk:G2.blk id=some w.heap.size:=by
     have hS:=hR2.store _ hm
     grind [AJ]
    obtain⟨E1,n1',len1,v1,cap1,cur1,g1,g2,g3,g4,g5,g6,g7,g8,g9⟩:=hR2.deepRel hL hblk
    rw [hE]at g9
    obtain⟨us,r1,r2⟩:=g9.list
    obtain⟨G3,hR3,hown⟩:=hR2.nilsOwned hL (cs':=As T E (List.length l:Nat) 0 l) (by grind [F2]) (Lf l 0) hblk (fun k c hk=>by
     rw [hE]
     rcases P1 (by omega) hk with ⟨F1,m,cs,z1,z2⟩ | z
     ·right
      obtain⟨v,y1,y2⟩:=TQ r1 z2
      have hcell:=r2 k v y1
      rw [Nat.zero_add]at hcell
      grind [k9]
     grind)
    have hless:Bk (st2.toSt.killP (CI id) ((st2.toSt.so.map (Ak.killP (CI id))).map (setE id e.toE.row (As T E (List.length l:Nat) 0 l)))) ((st2.killF (CI id)).setX id (.deep E (List.length l:Nat) l none)).toSt :=by
     refine GD ?_ ?_ ?_ (Dl n4.ok) ?_
     ·exact k1
     ·exact k2
     ·intro z hz
      simp only [St.killP,List.mem_map]
      obtain⟨e3,h1,rfl⟩:=List.mem_map.1 hz
      rcases setL_mem' n3.ok.nd h1 with ⟨h1,h2⟩ | h1
      ·obtain⟨d3,h3,h4,h5⟩:=Sx n2.ok (List.mem_map.2 ⟨e3,h1,rfl⟩)
       have hid3:d3.id ≠ id:=by
        grind [Ak.killP_id,DE.toE_id]
       refine⟨d3.killP (CI id),⟨d3,h3,rfl⟩,?_⟩
       grind [CG,Ak.killP_id]
      ·subst h1
       refine⟨e.toE.killP (CI id),⟨e.toE,hm,rfl⟩,?_⟩
       rw [CH (by rw [Ak.killP_id,hE]),Ak.killP_id,Ak.killP_pu,hE]
       rfl
     ·show (st2.killF (CI id)).pre =st2.pre
      exact k4
    unfold Oper.wp
    rw [hrun]
    refine⟨_,G3,hK,?_⟩
    rw [hd]
    exact hR3.less hless
   ·exact Yl.no
  ·exact Yl.no
theorem lb {H:Am T} {P:Program} {I:World→Prop} {st:Ad T} (hw:Av H st) {o:Oper}:Yl (dmk P o st) (fun st'=>(∃ H',Nx H st H' st')∧st'.pre=st.pre∧ ∀ K:St→Prop,K st'.toSt→Dk P I o st.toSt K):=by
 unfold dmk
 split
 ·rename_i hop hd
  exact Zn hw hd (dX hop hd)
 ·rename_i hop hd
  split
  ·rename_i hp
   exact Yl.mIf fun hc=>Zn hw hd (bg hw hop hd hp hc)
  ·exact Yl.no
 ·exact Yl.no
end Go.PL
namespace Go.PL
open Go Go.RowKit
variable {T:AN}
def F9 (c:DC T):(ks:List Kd)→DK T.den ks→Nat→Option (DK T.den ks)
 | .int k::_,y,0=>match Fi false (.int k) c with
   | some x=>some (x,y.2)
   | none=>none
 | .bool ::_,y,0=>match Fi false .bool c with
   | some x=>some (x,y.2)
   | none=>none
 | .str ::_,y,0=>match Fi false .str c with
   | some x=>some (x,y.2)
   | none=>none
 | _::ks,y,p+1=>match F9 c ks y.2 p with
   | some z=>some (y.1,z)
   | none=>none
 | _,_,_=>none
theorem IC {c:DC T}: ∀ {ks:List Kd} {y z:DK T.den ks} {p:Nat},F9 c ks y p=some z→
 Ba T ks z=(Ba T ks y).set p c.toC∧Bf T.enc ks z=(Bf T.enc ks y).set p c.toC∧p<ks.length∧c.toC.pure=true∧W9 c.toC=true
 | [],_,_,_,h=>by simp [F9]at h
 | .lst F'::ks,y,z,0,h=>by simp [F9]at h
 | .int k::ks,y,z,0,h=>by
   simp only [F9]at h
   split at h
   ·rename_i x hx
    injection h with h;subst h
    have:=(BS hx).2 rfl
    rw [this]
    exact⟨rfl,rfl,by simp,rfl,rfl⟩
   ·cases h
 | .bool ::ks,y,z,0,h=>by
   simp only [F9]at h
   split at h
   ·rename_i x hx
    injection h with h;subst h
    have:=(BS hx).2 rfl
    rw [this]
    exact⟨rfl,rfl,by simp,rfl,rfl⟩
   ·cases h
 | .str ::ks,y,z,0,h=>by
   simp only [F9]at h
   split at h
   ·rename_i x hx
    injection h with h;subst h
    have:=(BS hx).2 rfl
    rw [this]
    exact⟨rfl,rfl,by simp,rfl,rfl⟩
   ·cases h
 | k::ks,y,z,p+1,h=>by
   have h:(match F9 c ks y.2 p with | some z=>some ((y.1,z):KZ T.den k×DK T.den ks) | none=>none)=some z:=by
    cases k<;>simpa only [F9] using h
   split at h
   ·rename_i z' hz
    injection h with h
    subst h
    obtain⟨a,b,d,e,f⟩:=IC hz
    exact⟨by simp only [Ba,List.set_cons_succ];rw [a],by simp only [Bf,List.set_cons_succ];rw [b],by simp;omega,e,f⟩
   ·cases h
theorem Nq {E:Nat} {n:Int} {c:C} {p:Nat} {x':T.den E}: ∀ {l:List (T.den E)} {k:Int} {i:Nat} {x:T.den E},l[i]? =some x→T.denc E x'=(T.denc E x).set p c→T.enc E x'=(T.enc E x).set p c→p<T.sz E→(As T E n k l).set (i*T.sz E+p) c=As T E n k (l.set i x')
 | [],_,_,_,h,_,_,_=>by simp at h
 | y::l,k,0,x,h,hx,hx2,hp=>by
   simp only [List.getElem?_cons_zero,Option.some.injEq]at h
   subst h
   rw [List.set_cons_zero,As,As,Nat.zero_mul,Nat.zero_add]
   by_cases hk:k<n
   all_goals simp_all [CW,if_neg,AA]
 | y::l,k,i+1,x,h,hx,hx2,hp=>by
   have hl:(if k<n then T.denc E y else T.enc E y).length =T.sz E:=by
    grind [CW,AA]
   rw [List.set_cons_succ,As,As,List.set_append_right _ _ (by rw [hl,Nat.add_mul,Nat.one_mul];omega),hl,show (i+1)*T.sz E+p - T.sz E=i*T.sz E+p by rw [Nat.add_mul,Nat.one_mul];omega]
   rw [Nq (by simpa using h) hx hx2 hp]
def Ch (P:Program) (o:Oper) (st:Ad T):M (Ad T):=match o.op with
 | .store t x y=>match o.dst,st.arg [] x,st.arg [] y,Fd P t with
   | none,some (.c (.rp id N i off)),some (.c c),some (false,1)=>match FZ st id with
     | some ⟨E,(nn,l,none)⟩=>mIf (Db id&&Nat.beq N (T.sz E)) (.opt (Gk l i) fun x=>
      match F9 c (T.ks E) (T.un E x) off with
      | some z=> .ret (st.setX id (.deep E nn (l.set i.toNat (T.bd E z)) none))
      | none=> .no)
     | _=> .no
   | _,_,_,_=> .no
 | _=> .no
theorem lc {H:Am T} {P:Program} {I:World→Prop} {st:Ad T} (hw:Av H st) {o:Oper}:Yl (Ch P o st) (fun st'=>(∃ H',Nx H st H' st')∧st'.pre=st.pre∧ ∀ K:St→Prop,K st'.toSt→Dk P I o st.toSt K):=by
 unfold Ch
 split
 ·rename_i t x y hop
  split
  ·rename_i id N i off c hd hx hy ht
   split
   ·rename_i E nn l hdr
    refine Yl.mIf fun hg=>Yl.opt fun xx hxx=>?_
    simp only [Bool.and_eq_true,Nat.beq_eq]at hg
    obtain⟨g1,g2⟩:=hg
    subst g2
    split
    ·rename_i z hz
     obtain⟨i0,i1,hxi⟩:=Fp hxx
     obtain⟨a1,a2,a3⟩:=Ev hw hx
     obtain⟨b1,b2,b3⟩:=Ev hw hy
     obtain⟨hmk,hlr,e,he1,he2,he3⟩:=Bl hdr
     obtain⟨z1,z2,hoff,z3,z4⟩:=IC hz
     have hE:e.toE=⟨id,some (E,T.sz E,l.length),As T E nn 0 l,true⟩:=by unfold DE.toE;rw [he3,he2];rfl
     have hdenc:T.denc E (T.bd E z)=(T.denc E xx).set off c.toC:=by rw [AN.denc,T.unmk,z1];rfl
     have henc:T.enc E (T.bd E z)=(T.enc E xx).set off c.toC:=by rw [←T.encok,T.unmk,z2,T.encok]
     have hset:=Nq (n:=nn) (k:=0) (x':=T.bd E z) (c:=c.toC) (p:=off) hxi hdenc henc hoff
     obtain⟨H2,n2⟩:=Ad.setX_nx hw id (x:= .deep E nn (l.set i.toNat (T.bd E z)) none) trivial
     refine Yl.ret ⟨⟨H2,n2⟩,rfl,fun K hK Fr a w G Q hI hR=>?_⟩
     have hm:e.toE∈st.toSt.so:=List.mem_map.2 ⟨e,he1,rfl⟩
     have hL:st.toSt.lookD id=some e.toE:=hR.lookD_of hm (by rw [hE]) g1
     have hxv:=hR.arg rfl a2
     rw [a3]at hxv
     simp only [DV.toV,DC.toC,Ab,Ac]at hxv
     obtain⟨b,hb1,hv⟩:=hxv
     have hyv:=hR.arg rfl b2
     rw [b3]at hyv
     simp only [DV.toV,Ab]at hyv
     have hone:=hyv.one
     have hcl:(a.eval y).cells.toList =[a.eval y]:=by
      cases hq:a.eval y<;>rw [hq]at hone<;>first | rfl | cases hone
     have hc:Ag w G [c.toC] (a.eval y).cells.toList :=by rw [hcl];exact⟨hyv,trivial⟩
     have hlen:e.toE.cs.length=l.length*T.sz E:=by grind [F2]
     have hoff':off<T.sz E:=hoff
     have hk:i.toNat*T.sz E+off<e.toE.cs.length:=by
      rw [hlen]
      have:(i.toNat+1)*T.sz E≤l.length*T.sz E:=Nat.mul_le_mul_right _ (by omega)
      grind
     obtain⟨cur,T',c1,c2,c3⟩:=hR.deepStored hL hb1 (off:=i.toNat*T.sz E+off) hc (by simp;omega) (by simp [Aj,z3]) (by simp [z4])
     have hs:=CR (P:=P) ht c1 (by grind) c2 (Ag.one hc)
     generalize w.setRow b _=w1 at hs c3
     have hrun:(execOp a.eval o).run P w= .ok .skip w1:=by simp_all [execOp]
     refine Dr hrun ?_
     rw [hd]
     refine⟨_,G,hK,c3.less ?_⟩
     refine GD (Fw.refl _) (Fw.refl _) ?_ (Dl n2.ok) rfl
     intro u hu
     obtain⟨e3,h1,rfl⟩:=List.mem_map.1 hu
     rcases setL_mem' hw.nd h1 with ⟨h1,h2⟩ | h1
     ·exact List.mem_map.2 ⟨e3.toE,List.mem_map.2 ⟨e3,h1,rfl⟩,(by grind [CG,DE.toE_id])⟩
     ·subst h1
      refine List.mem_map.2 ⟨e.toE,hm,?_⟩
      rw [CH (by rw [hE])]
      show _=(⟨id,some (E,T.sz E,(l.set i.toNat (T.bd E z)).length),As T E nn 0 (l.set i.toNat (T.bd E z)),true⟩:Ak)
      simp only [hE,List.length_set]
      simp_all [List.set_eq_take_append_cons_drop]
    ·exact Yl.no
   ·exact Yl.no
  ·exact Yl.no
 ·exact Yl.no
def nk (ks:List Nat) (st:Ad T):Ad T:=match st.gh with
 | []=>st
 | (m,tm)::r=>{st with gh:=(m,Ey ks tm)::r}
theorem lg {H:Am T} {st:Ad T} (hw:Av H st) (ks:List Nat):(∃ H',Nx H st H' (nk ks st))∧(nk ks st).pre =st.pre∧Wk st.toSt (nk ks st).toSt :=by
 unfold nk
 split
 ·exact⟨⟨H,Nx.refl hw⟩,rfl,Wk.less (Bk.refl _)⟩
 ·rename_i m tm r hg
  have hn:Nx H st H {st with gh:=(m,Ey ks tm)::r}:=⟨B3.refl _ _,Nat.le_refl _,hw.tm,fun f hf=>by
   rcases List.mem_cons.1 hf with rfl | hf
   ·exact fun s t v hm=>hw.gh (m,tm) (by grind) s t v (HL hm)
   ·exact hw.gh f (by grind),hw.so,hw.nd⟩
  refine⟨⟨H,hn⟩,rfl,Wk.less (GD (Fw.refl _) ?_ (fun _ h=>h) (Dl hn.ok) rfl)⟩
  show Fw (st.gh.flatMap fun f=>At f.1 f.2) (((m,Ey ks tm)::r).flatMap fun f=>At f.1 f.2)
  rw [hg,List.flatMap_cons,List.flatMap_cons]
  refine Fw.append ?_ (Fw.refl _)
  unfold At
  refine Fw.map fun i _=>?_
  rw [IW]
  split
  ·grind
  ·exact .inl rfl
end Go.PL
set_option linter.all false
namespace Go.PL
open Go Go.RowKit
variable {T:AN}
def N1 {P:Program} {I:World→Prop} (f:FuncId):List (CE T P I)→Option TypeId
 | []=>none
 | e::r=>match Nat.beq e.f f,e.ins with
   | true,some E=>some E
   | _,_=>N1 f r
theorem Lg {P:Program} {I:World→Prop} {f:FuncId} {E:TypeId}: ∀ {l:List (CE T P I)},N1 f l=some E→Y5 P f E
 | [],h=>by cases h
 | e::r,h=>by
   unfold N1 at h
   split at h
   ·rename_i E' hb hE
    injection h with h;subst h
    rw [←Nat.eq_of_beq_eq_true hb]
    exact e.insok _ hE
   ·exact Lg h
def dY (st:Ad T) (r:Ae) (E:Nat) (l m:List (T.den E)) (i:Int) (d:Nat):M (Ad T):=
 .opt (Fb (0≤i∧i≤(l.length:Nat)∧0<m.length∧(l.length+m.length)*8≤140737488355328)) fun _=>
  match st.new r (.row E (l.take i.toNat++(m++l.drop i.toNat)))with
  | some s=> .ret (s.put (some d) (.c (.c (.osl r))))
  | none=> .no
theorem dZ {H:Am T} {P:Program} {I:World→Prop} {st:Ad T} (hw:Av H st) {o:Oper} {f:FuncId} {x y z:Operand} {d:Nat} {r rv:Ae} {E:Nat} {l m:List (T.den E)} {i:Int} (hk:A2 o.op= .call f [x,y,z]) (hd:o.dst=some d) (g1:PL.ent P f=true) (hp:Y5 P f E) (g4:T.sz E=1) (hne:r ≠ rv)
 (hx:st.arg [] x=some (.c (.c (.osl r)))) (hy:st.arg [] y=some (.c (.k (.int .i64) i))) (hz:st.arg [] z=some (.c (.c (.osl rv)))) (hr:CJ st r=some ⟨E,l⟩) (hrv:CJ st rv=some ⟨E,m⟩):
 Yl (dY st r E l m i d) (fun st'=>(∃ H',Nx H st H' st')∧st'.pre=st.pre∧ ∀ K:St→Prop,K st'.toSt→Dk P I o st.toSt K):=by
 unfold dY
 refine Yl.opt fun u hn=>?_
 have hn:=BP hn
 split
 ·rename_i s hs
  obtain⟨⟨H1,n1⟩,l1,p1⟩:=Ad.new_spec hw (show (DX.row E _:DX T).ok from trivial) hs
  obtain⟨H2,n2⟩:=Ad.put_spec n1 (some d) (v:= .c (.c (.osl r))) (by simp only [DV.ok,DC.ok])
  refine Yl.ret ⟨⟨H2,n2⟩,by rw [AB];exact p1,fun K hK=>?_⟩
  obtain⟨_,a2,a3⟩:=Ev hw hx
  obtain⟨_,b2,b3⟩:=Ev hw hy
  obtain⟨_,c2,c3⟩:=Ev hw hz
  obtain⟨h1,_,_⟩:=Be hr
  obtain⟨h2,_,_⟩:=Be hrv
  rw [g4]at h1 h2
  have hlen: ∀ l:List (T.den E),(l.flatMap (T.enc E)).length =l.length:=fun l=>by rw [PW (fun y=>AA E y),g4,Nat.mul_one]
  have ht: ∀ (l:List (T.den E)) (j:Nat),(l.flatMap (T.enc E)).take j=(l.take j).flatMap (T.enc E):=fun l j=>by
   have:=Er (fun y=>AA E y) l j
   grind
  have hdp: ∀ (l:List (T.den E)) (j:Nat),(l.flatMap (T.enc E)).drop j=(l.drop j).flatMap (T.enc E):=fun l j=>by
   have:=Ft (fun y=>AA E y) l j
   grind
  have hE:(⟨r,0, .row E (l.take i.toNat++(m++l.drop i.toNat))⟩:DE T).toE =⟨r,some (E,1,l.length+m.length),(l.flatMap (T.enc E)).take i.toNat++m.flatMap (T.enc E)++(l.flatMap (T.enc E)).drop i.toNat,true⟩:=by
   show (⟨r,some (E,T.sz E,(l.take i.toNat++(m++l.drop i.toNat)).length),(l.take i.toNat++(m++l.drop i.toNat)).flatMap (T.enc E),true⟩:Ak)=_
   grind
  refine Dk.ins (K:=K) hk g1 hp (fun Fr a w G hR=>?_) (fun Fr a w G hR=>?_) (fun Fr a w G hR=>?_) h1 h2 hne ⟨hn.1,hn.2.1⟩ hn.2.2.1 hn.2.2.2 (by rw [←hE];exact l1) (by grind [Ad.put_toSt,DV.toV,DC.toC])
  ·have:=hR.arg rfl a2
   grind [DV.toV,DC.toC]
  ·have:=hR.arg rfl b2
   grind [DV.toV,DC.toC,AQ]
  ·have:=hR.arg rfl c2
   simp_all [DV.toV,DC.toC]
 ·exact Yl.no
def lh {P:Program} {I:World→Prop} (Γ:List (CE T P I)) (o:Oper) (st:Ad T):M (Ad T):=match A2 o.op,o.dst with
 | .call f [x,y,z],some d=>match st.arg [] x,st.arg [] y,st.arg [] z,N1 f Γ with
   | some (.c (.c (.osl r))),some (.c (.k (.int .i64) i)),some (.c (.c (.osl rv))),some E0=>match CJ st r,CJ st rv with
     | some ⟨E,l⟩,some ⟨E',m'⟩=>match Wm E E' m' with
       | some m=>mIf ((PL.ent P f&& !AG r rv)&&(Nat.beq E0 E&&Nat.beq (T.sz E) 1)) (dY st r E l m i d)
       | none=> .no
     | _,_=> .no
   | _,_,_,_=> .no
 | _,_=> .no
theorem io {H:Am T} {P:Program} {I:World→Prop} {Γ:List (CE T P I)} {st:Ad T} (hw:Av H st) {o:Oper}:Yl (lh Γ o st) (fun st'=>(∃ H',Nx H st H' st')∧st'.pre=st.pre∧ ∀ K:St→Prop,K st'.toSt→Dk P I o st.toSt K):=by
 unfold lh
 split
 ·rename_i f x y z d hk hd
  split
  ·rename_i r i rv E0 hx hy hz hp
   split
   ·rename_i E l E' m' hr hrv
    split
    ·rename_i m hm
     refine Yl.mIf fun hg=>?_
     simp only [Bool.and_eq_true,Nat.beq_eq,Bool.not_eq_true']at hg
     obtain⟨⟨g1,g2⟩,g3,g4⟩:=hg
     subst g3
     obtain⟨e,hme⟩:=JW hm
     subst e
     subst hme
     exact dZ hw hk hd g1 (Lg hp) g4 (fun q=>by rw [Az.2 q]at g2;cases g2) hx hy hz hr hrv
    ·exact Yl.no
   ·exact Yl.no
  ·exact Yl.no
 ·exact Yl.no
end Go.PL
set_option linter.all false
namespace Go.PL
open Go Go.RowKit
variable {T:AN}
def li (P:Program) (o:Oper) (st:Ad T):M (Ad T):=match o.op with
 | .load t x=>match o.dst,st.arg [] x,Fd P t with
   | some d,some (.c (.rp id N i off)),some (false,1)=>match FZ st id with
     | some ⟨E,(nn,l,none)⟩=>mIf (Db id&&Nat.beq N (T.sz E)) (.opt (Gk l i) fun x=> .opt (Fb (i<nn)) fun _=>match D3 (T.ks E) (T.un E x) off with
       | some ⟨_,_⟩=> .ret (st.put (some d) (.c (.c (.osl (1000007::(i.toNat*T.sz E+off)::id)))))
       | none=> .no)
     | _=> .no
   | _,_,_=> .no
 | _=> .no
def lj (P:Program) (o:Oper) (st:Ad T):M (Ad T):=match o.op with
 | .indexAddr t x y=>match o.dst,st.arg [] x,st.arg [] y,BZ P t with
   | some d,some (.c (.c (.osl (m::k::id)))),some (.c (.k (.int _) j)),some (_,n')=>match FZ st id with
     | some ⟨E,(nn,l,none)⟩=>mIf (Db id&&(Nat.beq m 1000007&&Nat.beq (T.sz E) 1)) (.opt (Gk l (k:Int)) fun x=> .opt (Fb ((k:Int)<nn)) fun _=>match D3 (T.ks E) (T.un E x) 0 with
       | some ⟨F,y⟩=>mIf (Nat.beq n' (T.sz F)) (.opt (Gk y j) fun _=> .ret (st.put (some d) (.c (.c (.ptr (m::k::id) (j.toNat*n'))))))
       | none=> .no)
     | _=> .no
   | _,_,_,_=> .no
 | _=> .no
def ll (P:Program) (o:Oper) (st:Ad T):M (Ad T):=match o.op with
 | .store t x y=>match o.dst,st.arg [] x,st.arg [] y,Fd P t with
   | none,some (.c (.c (.ptr (m::k::id) off))),some (.c c),some (false,1)=>match FZ st id with
     | some ⟨E,(nn,l,none)⟩=>mIf (Db id&&(Nat.beq m 1000007&&Nat.beq (T.sz E) 1)) (.opt (Gk l (k:Int)) fun x=> .opt (Fb ((k:Int)<nn)) fun _=>match D3 (T.ks E) (T.un E x) 0 with
       | some ⟨F,y⟩=>mIf (Nat.beq (T.sz F) 1) (.opt (Gk y (off:Int)) fun v=>match F9 c (T.ks F) (T.un F v) 0 with
         | some z=>match D4 F (y.set off (T.bd F z)) (T.ks E) (T.un E x) 0 with
           | some x'=> .ret (st.setX id (.deep E nn (l.set k (T.bd E x')) none))
           | none=> .no
         | none=> .no)
       | none=> .no)
     | _=> .no
   | _,_,_,_=> .no
 | _=> .no
section
variable {H:Am T} {P:Program} {I:World→Prop} {st:Ad T}
theorem Mp {E:Nat} {nn:Int} {l:List (T.den E)} {k off:Nat} {x:T.den E} (hx:l[k]? =some x) (hn:(k:Int)<nn) {F:Nat} {y:List (T.den F)} (hy:D3 (T.ks E) (T.un E x) off=some ⟨F,y⟩):
 (As T E nn 0 l)[k*T.sz E+off]? =some (.isl F (T.sz F) y.length (y.flatMap (T.enc F))):=by
 obtain⟨hc,hoff⟩:=IB hy
 rw [F3 hx hoff,if_pos (by omega)]
 exact hc
theorem iq (hw:Av H st) {o:Oper}:Yl (li P o st) (fun st'=>(∃ H',Nx H st H' st')∧st'.pre=st.pre∧ ∀ K:St→Prop,K st'.toSt→Dk P I o st.toSt K):=by
 unfold li
 split
 ·rename_i t x hop
  split
  ·rename_i d id N i off hd hx ht
   split
   ·rename_i E nn l hdr
    refine Yl.mIf fun hg=>Yl.opt fun xx hxx=>Yl.opt fun u hu=>?_
    simp only [Bool.and_eq_true,Nat.beq_eq]at hg
    obtain⟨g1,g2⟩:=hg
    subst g2
    split
    ·rename_i F y hy
     have hin:=BP hu
     obtain⟨i0,i1,hxi⟩:=Fp hxx
     obtain⟨a1,a2,a3⟩:=Ev hw hx
     obtain⟨hmk,hlr,e,he1,he2,he3⟩:=Bl hdr
     have hE:e.toE=⟨id,some (E,T.sz E,l.length),As T E nn 0 l,true⟩:=by unfold DE.toE;rw [he3,he2];rfl
     obtain⟨H4,n4⟩:=Ad.put_nx hw (some d) (v:= .c (.c (.osl (1000007::(i.toNat*T.sz E+off)::id)))) (by simp only [DV.ok,DC.ok])
     refine Yl.ret ⟨⟨H4,n4⟩,AB _ _ _,fun K hK Fr a w G Q hI hR=>?_⟩
     have hL:st.toSt.lookD id=some e.toE:=hR.lookD_of (List.mem_map.2 ⟨e,he1,rfl⟩) (by rw [hE]) g1
     have hk:e.toE.cs[i.toNat*T.sz E+off]? =some (.isl F (T.sz F) y.length (y.flatMap (T.enc F))):=by
      grind [Mp]
     have hxv:=hR.arg rfl a2
     rw [a3]at hxv
     simp only [DV.toV,DC.toC,Ab,Ac]at hxv
     obtain⟨b,hb1,hv⟩:=hxv
     obtain⟨_,hRE,b2,v,k3,k4,k5⟩:=hR.inner hL hk
     rw [hb1]at k3;injection k3 with k3;subst k3
     obtain⟨dd,ti,hu',hd',_⟩:=Br ht
     have hone:v.oneCell'=true:=by
      unfold AJ at hRE
      obtain⟨_,v2,c2,c3⟩:=hRE
      rw [show (⟨A9 (i.toNat*T.sz E+off) id,some (F,T.sz F,y.length),y.flatMap (T.enc F),true⟩:Ak).id =A9 (i.toNat*T.sz E+off) id from rfl,k5]at c2
      injection c2 with c2;subst c2
      rcases c3 with ⟨p,rfl,_⟩ | ⟨b',cap,cur,rfl,_⟩<;>rfl
     have hrun:(execOp a.eval o).run P w= .ok (.value v) w:=by
      simp_all [execOp,Cd]
     refine Ap hrun ⟨_,G,hK,?_⟩
     rw [Ad.put_toSt,hd]
     exact hR.put (by simp only [DV.toV,DC.toC,Ab,Ac];exact⟨k5,hone⟩)
    ·exact Yl.no
   ·exact Yl.no
  ·exact Yl.no
 ·exact Yl.no
theorem ir (hw:Av H st) {o:Oper}:Yl (lj P o st) (fun st'=>(∃ H',Nx H st H' st')∧st'.pre=st.pre∧ ∀ K:St→Prop,K st'.toSt→Dk P I o st.toSt K):=by
 unfold lj
 split
 ·rename_i t x y hop
  split
  ·rename_i d m k id ki j E' n' hd hx hy ht
   split
   ·rename_i E nn l hdr
    refine Yl.mIf fun hg=>Yl.opt fun xx hxx=>Yl.opt fun u hu=>?_
    simp only [Bool.and_eq_true,Nat.beq_eq]at hg
    obtain⟨g1,g2,g3⟩:=hg
    subst g2
    split
    ·rename_i F r hr
     refine Yl.mIf fun hg'=>Yl.opt fun z hz=>?_
     have g4:n'=T.sz F:=by simp_all
     subst g4
     have hin:=BP hu
     obtain⟨i0,i1,hxi⟩:=Fp hxx
     obtain⟨j0,j1,_⟩:=Fp hz
     obtain⟨a1,a2,a3⟩:=Ev hw hx
     obtain⟨b1,b2,b3⟩:=Ev hw hy
     obtain⟨hmk,hlr,e,he1,he2,he3⟩:=Bl hdr
     have hE:e.toE=⟨id,some (E,T.sz E,l.length),As T E nn 0 l,true⟩:=by unfold DE.toE;rw [he3,he2];rfl
     obtain⟨H4,n4⟩:=Ad.put_nx hw (some d) (v:= .c (.c (.ptr (1000007::k::id) (j.toNat*T.sz F)))) (by simp only [DV.ok,DC.ok])
     refine Yl.ret ⟨⟨H4,n4⟩,AB _ _ _,fun K hK Fr a w G Q hI hR=>?_⟩
     have hL:st.toSt.lookD id=some e.toE:=hR.lookD_of (List.mem_map.2 ⟨e,he1,rfl⟩) (by rw [hE]) g1
     have hk:e.toE.cs[k]? =some (.isl F (T.sz F) r.length (r.flatMap (T.enc F))):=by
      rw [hE]
      have:=Mp (nn:=nn) (k:=k) (off:=0) (by simpa using hxi) hin hr
      grind
     have hxv:=hR.arg rfl a2
     have hyv:=hR.arg rfl b2
     rw [a3]at hxv
     rw [b3]at hyv
     simp only [DV.toV,DC.toC,AQ,Ab,Ac]at hxv hyv
     obtain⟨_,hRE,_⟩:=hR.inner hL hk
     unfold AJ at hRE
     obtain⟨_,v2,c2,c3⟩:=hRE
     rw [show (⟨A9 k id,some (F,T.sz F,r.length),r.flatMap (T.enc F),true⟩:Ak).id =A9 k id from rfl,show A9 k id=1000007::k::id from rfl,hxv.1]at c2
     injection c2 with c2
     rcases c3 with ⟨p,_,c4,_⟩ | ⟨b',cap,cur,c3,e2,_⟩
     ·omega
     ·have hrun:(execOp a.eval o).run P w= .ok (.value (.pointer (some ⟨b',0+j.toNat*T.sz F,none⟩))) w:=by
       simp [execOp,hop,hyv,c2,c3,Ck ht b' 0 r.length cap ki j j0 j1 w]
      refine Ap hrun ⟨_,G,hK,?_⟩
      rw [Ad.put_toSt,hd]
      exact hR.put (by simp only [DV.toV,DC.toC,Ab,Ac];exact⟨b',e2,by grind⟩)
    ·exact Yl.no
   ·exact Yl.no
  ·exact Yl.no
 ·exact Yl.no
theorem Wr {F:Nat} {c:C} {v':T.den F} (hs:T.sz F=1) (hv:T.enc F v'=[c]): ∀ {y:List (T.den F)} {off:Nat},off<y.length→(y.set off v').flatMap (T.enc F)=(y.flatMap (T.enc F)).take off++[c]++(y.flatMap (T.enc F)).drop (off+1)
 | [],_,h=>by simp at h
 | a::y,0,_=>by
   grind [AA]
 | a::y,off+1,h=>by
   have ha:(T.enc F a).length =1:=by rw [AA,hs]
   obtain⟨q,hq⟩: ∃ q,T.enc F a=[q]:=List.length_eq_one_iff.1 ha
   have:=Wr hs hv (y:=y) (off:=off) (by simpa using h)
   simp [hq,this]
theorem iu (hw:Av H st) {o:Oper}:Yl (ll P o st) (fun st'=>(∃ H',Nx H st H' st')∧st'.pre=st.pre∧ ∀ K:St→Prop,K st'.toSt→Dk P I o st.toSt K):=by
 unfold ll
 split
 ·rename_i t x y hop
  split
  ·rename_i m k id off c hd hx hy ht
   split
   ·rename_i E nn l hdr
    refine Yl.mIf fun hg=>Yl.opt fun xx hxx=>Yl.opt fun u hu=>?_
    simp only [Bool.and_eq_true,Nat.beq_eq]at hg
    obtain⟨g1,g2,g3⟩:=hg
    subst g2
    split
    ·rename_i F r hr
     refine Yl.mIf fun hg'=>Yl.opt fun v hv0=>?_
     have g4:T.sz F=1:=by simp_all
     split
     ·rename_i z hz
      split
      ·rename_i x' hx'
       have hin:=BP hu
       obtain⟨i0,i1,hxi⟩:=Fp hxx
       obtain⟨j0,j1,hvi⟩:=Fp hv0
       simp only [Int.toNat_natCast]at hxi hvi
       have hkl:k<l.length:=by omega
       have hol:off<r.length:=by omega
       obtain⟨a1,a2,a3⟩:=Ev hw hx
       obtain⟨b1,b2,b3⟩:=Ev hw hy
       obtain⟨hmk,hlr,e,he1,he2,he3⟩:=Bl hdr
       obtain⟨z1,z2,_,z3,z4⟩:=IC hz
       obtain⟨w1,w2⟩:=HP hx'
       have hE:e.toE=⟨id,some (E,T.sz E,l.length),As T E nn 0 l,true⟩:=by unfold DE.toE;rw [he3,he2];rfl
       have hk:e.toE.cs[k]? =some (.isl F (T.sz F) r.length (r.flatMap (T.enc F))):=by
        rw [hE]
        have:=Mp (nn:=nn) (k:=k) (off:=0) hxi hin hr
        grind
       have hv':T.enc F (T.bd F z)=[c.toC]:=by
        have hl1:(Bf T.enc (T.ks F) (T.un F v)).length =1:=by
         have:=AA F v
         rw [←T.encok,g4]at this
         exact this
        obtain⟨q,hq⟩:=List.length_eq_one_iff.1 hl1
        rw [←T.encok,T.unmk,z2,hq];rfl
       have hfl:=Wr g4 hv' hol
       have hdenc:T.denc E (T.bd E x')=(T.denc E xx).set 0 (.isl F (T.sz F) r.length ((r.flatMap (T.enc F)).take off++[c.toC]++(r.flatMap (T.enc F)).drop (off+[c.toC].length))):=by
        rw [AN.denc,T.unmk,w1]
        rw [List.length_set,hfl];rfl
       have hset:=JX (n:=nn) (k:=0) (x':=T.bd E x') (p:=0) hxi (by omega) hdenc (by omega)
       obtain⟨H2,n2⟩:=Ad.setX_nx hw id (x:= .deep E nn (l.set k (T.bd E x')) none) trivial
       refine Yl.ret ⟨⟨H2,n2⟩,rfl,fun K hK Fr a w G Q hI hR=>?_⟩
       have hm:e.toE∈st.toSt.so:=List.mem_map.2 ⟨e,he1,rfl⟩
       have hL:st.toSt.lookD id=some e.toE:=hR.lookD_of hm (by rw [hE]) g1
       have hxv:=hR.arg rfl a2
       rw [a3]at hxv
       simp only [DV.toV,DC.toC,Ab,Ac]at hxv
       obtain⟨b,hb1,hv⟩:=hxv
       have hyv:=hR.arg rfl b2
       rw [b3]at hyv
       simp only [DV.toV,Ab]at hyv
       have hone:=hyv.one
       have hcl:(a.eval y).cells.toList =[a.eval y]:=by
        cases hq:a.eval y<;>rw [hq]at hone<;>first | rfl | cases hone
       have hc:Ag w G [c.toC] (a.eval y).cells.toList :=by rw [hcl];exact⟨hyv,trivial⟩
       have hcsl:(r.flatMap (T.enc F)).length =r.length:=by rw [BO (fun y=>AA F y),g4,Nat.mul_one]
       obtain⟨cur,T',c1,c2,c3⟩:=hR.innerStored hL hk (b:=b) hb1 (off:=off) hc (by grind) (by simp [Aj,z3])
       have hs:=CR (P:=P) ht c1 (by grind) c2 (Ag.one hc)
       generalize w.setRow b _=w1 at hs c3
       have hrun:(execOp a.eval o).run P w= .ok .skip w1:=by simp_all [execOp]
       refine Dr hrun ?_
       rw [hd]
       refine⟨_,G,hK,c3.less ?_⟩
       refine GD (Fw.refl _) (Fw.refl _) ?_ (Dl n2.ok) rfl
       intro u hu
       obtain⟨e3,h1,rfl⟩:=List.mem_map.1 hu
       rcases setL_mem' hw.nd h1 with ⟨h1,h2⟩ | h1
       ·exact List.mem_map.2 ⟨e3.toE,List.mem_map.2 ⟨e3,h1,rfl⟩,(by grind [CG,DE.toE_id])⟩
       ·subst h1
        refine List.mem_map.2 ⟨e.toE,hm,?_⟩
        rw [CH (by rw [hE])]
        show _=(⟨id,some (E,T.sz E,(l.set k (T.bd E x')).length),As T E nn 0 (l.set k (T.bd E x')),true⟩:Ak)
        grind
      ·exact Yl.no
     ·exact Yl.no
    ·exact Yl.no
   ·exact Yl.no
  ·exact Yl.no
 ·exact Yl.no
end
end Go.PL
set_option linter.all false
namespace Go.PL
open Go Go.RowKit
variable {T:AN}
def pT {den:Nat→Type}:(ks:List Kd)→Option (Int→DK den ks)
 | [.int .u8]=>some fun n=>(n,())
 | _=>none
theorem d6 {den:Nat→Type} {enc: ∀ E,den E→List C}: ∀ {ks:List Kd} {f:Int→DK den ks},pT ks=some f→ ∀ n,Bf enc ks (f n)=[.int .u8 n]
 | [.int .u8],f,h,n=>by
   injection h with h
   subst h
   rfl
def pg (P:Program) (o:Oper) (st:Ad T):M (Ad T):=match o.op with
 | .convert src dst x=>match st.ev x,VI P dst,Cj P src with
   | .c (.k .str s),some E,true=>match pT (den:=T.den) (T.ks E)with
     | some f=> .opt (Fb (s.length≤140737488355328)) fun _=> .ret (st.put o.dst (.c (.k (.lst E) (s.map fun b=>T.bd E (f (b.toNat:Int))))))
     | none=> .no
   | _,_,_=> .no
 | _=> .no
theorem lm {H:Am T} {P:Program} {I:World→Prop} {st:Ad T} (hw:Av H st) {o:Oper}:Yl (pg P o st) (fun st'=>(∃ H',Nx H st H' st')∧st'.pre=st.pre∧ ∀ K:St→Prop,K st'.toSt→Dk P I o st.toSt K):=by
 unfold pg
 split
 ·rename_i src dst x hop
  split
  ·rename_i s E hev hb hs
   split
   ·rename_i f hf
    refine Yl.opt fun u hu=>?_
    obtain⟨H4,n4⟩:=Ad.put_nx hw o.dst (v:= .c (.k (.lst E) (s.map fun b=>T.bd E (f (b.toNat:Int))))) (by simp only [DV.ok,DC.ok])
    refine Yl.ret ⟨⟨H4,n4⟩,AB _ _ _,fun K hK=>?_⟩
    have hev':=st.ev_toSt x
    rw [hev]at hev'
    have he: ∀ n,T.enc E (T.bd E (f n))=[.int .u8 n]:=fun n=>by
     rw [←T.encok,T.unmk]
     exact d6 hf n
    have hv:(DV.c (.k (.lst E) (s.map fun b=>T.bd E (f (b.toNat:Int)))):DV T).toV =vL (eI .u8) (FV s):=by
     have hfl: ∀ s:List UInt8,(s.map fun b=>T.bd E (f (b.toNat:Int))).flatMap (T.enc E)=(FV s).flatMap (eI .u8):=fun s=>by
      induction s with
      | nil=>rfl
      | cons b s ih=>
        simp only [FV,List.map_cons,List.flatMap_cons]at ih ⊢
        rw [ih,he]
        rfl
     have hln: ∀ s:List UInt8,(s.map fun b=>T.bd E (f (b.toNat:Int))).length =(FV s).length :=fun s=>by simp [FV]
     exact congr (congrArg (fun n l=>V.c (C.sl n l)) (hln s)) (hfl s)
    rw [Ad.put_toSt,hv]at hK
    exact Dk.bytes E s hop (BP hu) hK (by rw [hev'];rfl) hs hb
   ·exact Yl.no
  ·exact Yl.no
 ·exact Yl.no
end Go.PL
set_option linter.all false
namespace Go.PL
open Go Go.RowKit
variable {T:AN}
def Lh {P:Program} {I:World→Prop} (g:Nat):List (CE T P I)→Option (List (List UInt8))
 | []=>none
 | e::r=>match e.tab with
   | some (g',t)=>match Nat.beq g' g with
     | true=>some t
     | false=>Lh g r
   | none=>Lh g r
theorem J0 {P:Program} {I:World→Prop} {g:Nat} {t:List (List UInt8)}: ∀ {l:List (CE T P I)},Lh g l=some t→TJ I g t
 | [],h=>nomatch h
 | e::r,h=>by
   unfold Lh at h
   split at h
   ·rename_i g' t' he
    split at h
    ·rename_i hb
     injection h with h
     subst h
     have:=Nat.eq_of_beq_eq_true hb
     subst this
     exact e.tabok _ _ he
    ·exact J0 h
   ·exact J0 h
def jI (i:Int) (n:Nat):Option Unit:=Fb (0≤i∧i<((n:Nat):Int))
theorem iv {i:Int} {n:Nat} {u:Unit} (h:jI i n=some u):0≤i∧i<((n:Nat):Int):=BP h
def ph (P:Program) (o:Oper) (st:Ad T):M (Ad T):=match o.op with
 | .indexAddr t (.global g) x=>match st.ev x,CL P t with
   | .c (.k (.int _) i),some (n,_,1)=> .opt (jI i n) fun _=> .ret (st.put o.dst (.c (.c (.gptr g (Int.toNat i)))))
   | _,_=> .no
 | _=> .no
def pi {P:Program} {I:World→Prop} (Γ:List (CE T P I)) (o:Oper) (st:Ad T):M (Ad T):=match o.op with
 | .load t x=>match st.ev x,Fd P t with
   | .c (.c (.gptr g off)),some (false,1)=>match Lh g Γ with
     | some tab=> .opt (Fb (off<tab.length)) fun _=> .ret (st.put o.dst (.c (.k .str (tab.getD off []))))
     | none=> .no
   | _,_=> .no
 | _=> .no
theorem lp {H:Am T} {P:Program} {I:World→Prop} {st:Ad T} (hw:Av H st) {o:Oper}:Yl (ph P o st) (fun st'=>(∃ H',Nx H st H' st')∧st'.pre=st.pre∧ ∀ K:St→Prop,K st'.toSt→Dk P I o st.toSt K):=by
 unfold ph
 split
 ·rename_i t g x hop
  split
  ·rename_i k i n E hev ht
   refine Yl.opt fun u hu=>?_
   obtain⟨H4,n4⟩:=Ad.put_nx hw o.dst (v:= .c (.c (.gptr g (Int.toNat i)))) (by simp only [DV.ok,DC.ok])
   refine Yl.ret ⟨⟨H4,n4⟩,AB _ _ _,fun K hK=>?_⟩
   have hev':=st.ev_toSt x
   rw [hev]at hev'
   rw [Ad.put_toSt]at hK
   exact Dk.gAddr hop (iv hu) hK (by rw [hev'];rfl) ht
  ·exact Yl.no
 ·exact Yl.no
theorem lq {H:Am T} {P:Program} {I:World→Prop} {Γ:List (CE T P I)} {st:Ad T} (hw:Av H st) {o:Oper}:Yl (pi Γ o st) (fun st'=>(∃ H',Nx H st H' st')∧st'.pre=st.pre∧ ∀ K:St→Prop,K st'.toSt→Dk P I o st.toSt K):=by
 unfold pi
 split
 ·rename_i t x hop
  split
  ·rename_i g off hev ht
   split
   ·rename_i tab htab
    refine Yl.opt fun u hu=>?_
    obtain⟨H4,n4⟩:=Ad.put_nx hw o.dst (v:= .c (.k .str (tab.getD off []))) (by simp only [DV.ok,DC.ok])
    refine Yl.ret ⟨⟨H4,n4⟩,AB _ _ _,fun K hK=>?_⟩
    have hev':=st.ev_toSt x
    rw [hev]at hev'
    rw [Ad.put_toSt]at hK
    exact Dk.gLoad hop (J0 htab) (BP hu) hK (by rw [hev'];rfl) ht
   ·exact Yl.no
  ·exact Yl.no
 ·exact Yl.no
end Go.PL
set_option linter.all false
namespace Go.PL
open Go Go.RowKit
variable {T:AN}
def Sz (st:Ad T) (E:Nat):Nat→List (DC T)→Option (List (T.den E)×List Ae)
 | 0,[]=>some ([],[])
 | 0,_::_=>none
 | n+1,cs=>match Ld st (T.ks E) (cs.take (T.sz E)),Sz st E n (cs.drop (T.sz E))with
   | some (z,rs),some (l,rs')=>some (T.bd E z::l,rs++rs')
   | _,_=>none
structure pj (st:Ad T) (E:Nat) (cs:List (DC T)) (l:List (T.den E)) (rs:List Ae) (b:Nat) (ars:List AR):Prop where
 ids:ars.map (·.r)=rs
 len:cs.length=l.length*T.sz E
 at_: ∀ x∈ars,st.toSt.look x.r=some x.ent∧b≤x.k∧x.k<b+cs.length∧(Al cs)[x.k - b]? =some (.osl x.r)
 sets: ∀ pre post:List C,pre.length=b→Fk (pre++((Al cs).map HZ++post)) ars=pre++(l.flatMap (T.denc E)++post)
 pure:Aj ((Al cs).map HZ)=true
 noi:((Al cs).map HZ).all W9=true
theorem X6 (cs:List (DC T)) (n:Nat):Al cs=Al (cs.take n)++Al (cs.drop n):=by
 grind [BB,List.take_append_drop]
theorem Uc (l:List C) (a b:List AR):Fk l (a++b)=Fk (Fk l a) b:=by grind [Fk]
theorem P3 {st:Ad T} {E:Nat}: ∀ {n:Nat} {cs:List (DC T)} {l:List (T.den E)} {rs:List Ae},Sz st E n cs=some (l,rs)→ ∀ b:Nat, ∃ ars,pj st E cs l rs b ars∧l.length=n
 | 0,[],l,rs,h,b=>by
   simp only [Sz,Option.some.injEq]at h
   injection h with h1 h2
   subst h1 h2
   exact⟨[],⟨rfl,by simp,(by grind),(fun pre post _=>rfl),rfl,rfl⟩,rfl⟩
 | 0,_::_,_,_,h,_=>by simp [Sz]at h
 | n+1,cs,l,rs,h,b=>by
   unfold Sz at h
   split at h
   ·rename_i z rs1 l' rs' h1 h2
    injection h with h;injection h with e1 e2;subst e1 e2
    obtain⟨a1,ha⟩:=FC h1 b
    obtain⟨a2,hb,hl⟩:=P3 h2 (b+T.sz E)
    have hlen:(cs.take (T.sz E)).length =T.sz E:=ha.len
    have hle:T.sz E≤cs.length:=by grind
    have hd:(cs.drop (T.sz E)).length =cs.length - T.sz E:=List.length_drop
    have htl:(Al (cs.take (T.sz E))).length =T.sz E:=by rw [Ax,hlen]
    have hsp:=X6 cs (T.sz E)
    have hdz:Ba T (T.ks E) z=T.denc E (T.bd E z):=by rw [AN.denc,T.unmk]
    refine⟨a1++a2,⟨by rw [List.map_append,ha.ids,hb.ids],?_,fun x hx=>?_,fun pre post hp=>?_,?_,?_⟩,by simp [hl]⟩
    ·have:=hb.len
     simp_all [Nat.add_mul]
    ·rcases List.mem_append.1 hx with hx | hx
     ·obtain⟨p1,p2,p3,p4⟩:=ha.at_ x hx
      grind
     ·obtain⟨p1,p2,p3,p4⟩:=hb.at_ x hx
      grind
    ·rw [hsp,List.map_append,List.append_assoc,Uc,ha.sets pre _ hp,hdz]
     have:=hb.sets (pre++T.denc E (T.bd E z)) post (by grind [CW])
     grind
    ·rw [hsp,List.map_append,Bb,ha.pure,hb.pure];rfl
    ·rw [hsp,List.map_append,List.all_append,ha.noi,hb.noi];rfl
   ·cases h
theorem E3 {E:Nat} {n:Int}: ∀ {l:List (T.den E)} {k:Int},k+l.length≤n→As T E n k l=l.flatMap (T.denc E)
 | [],_,_=>rfl
 | x::l,k,h=>by
   simp only [List.length_cons]at h
   rw [As,if_pos (by omega),E3 (by omega),List.flatMap_cons]
def P4 (rs:List Ae) (r i:Ae):Bool:=match AG i r with
 | true=>true
 | false=>match AG i (1000003::r)with
   | true=>true
   | false=>Mn rs (1000003::r) i
theorem ID {rs:List Ae} {r i:Ae} (h:P4 rs r i=false):i ≠ r∧i ≠ 1000003::r∧Mn rs (1000003::r) i=false∧CI (1000003::r) i=false:=by
 unfold P4 at h
 split at h
 ·cases h
 ·rename_i h1
  split at h
  ·cases h
  ·rename_i h2
   refine⟨(by grind [Az]),(by grind [Az]),h,?_⟩
   have: ∀ rs:List Ae,Mn rs (1000003::r) i=false→CI (1000003::r) i=false:=by
    intro rs
    induction rs<;>grind [Mn,GC]
   grind
def pk (P:Program) (o:Oper) (st:Ad T):M (Ad T):=match o.op,o.dst with
 | .buildSlice t len ps,some d=>match BN P t,Eu st [] ps.toList with
   | some (E,n,_),some vs=>match JJ P E with
     | some z=>match M8 (fun i=>some (i*n,n)) ((List.replicate len z).flatMap id) (vs.map fun x=>(x.1,L7 x.2))with
       | some cs=>match Sz st E len cs with
         | some (l,rs)=>mIf ((Nat.beq n (T.sz E)&&(Nat.beq z.length n&&(Nat.blt 0 n&&Nat.ble (len*n) (2 ^ 24))))&&(Nat.blt 0 len&&(JB rs&&(!JO rs (d::st.pre)&&(!Db (d::st.pre)&& !BX (d::st.pre))))))
          (.ret ((AO [(1000003::d::st.pre, .deep E (l.length:Nat) l none)] (st.killD (P4 rs (d::st.pre)))).put (some d) (.c (.c (.osl (1000003::d::st.pre))))))
         | none=> .no
       | none=> .no
     | none=> .no
   | _,_=> .no
 | _,_=> .no
theorem IE {p q:Ae→Bool} (h: ∀ i,q i=true→p i=true) {v:V} (hv:v.menP p=false):AV q v=v:=by
 unfold AV;rw [if_neg (by rw [Dv h v hv];simp)]
theorem Ud {p:Ae→Bool} {r:Ae} (hr:p r=true) {v:V} (hv:v.menP p=false):CN r v=v:=by
 grind [CN,TC]
theorem Sk.put {p:Ae→Bool} {id:Ae} {ns:List Ae} {new:Ak} {A B:St} (h:Sk p id ns new A B) (d:Nat) {v:V} (hv:v.menP p=false):Sk p id ns new (A.put (some d) v) (B.put (some d) v):=by
 refine⟨by simp [St.put,h.len],fun i=>?_,h.glen,h.gh,h.so,h.nd,h.pre⟩
 have hl:=h.len
 have:=h.tm i
 simp only [St.put,List.getD_eq_getElem?_getD,List.getElem?_set,hl]at this ⊢
 grind
theorem lr {H:Am T} {P:Program} {I:World→Prop} {st:Ad T} (hw:Av H st) {o:Oper}:Yl (pk P o st) (fun st'=>(∃ H',Nx H st H' st')∧st'.pre=st.pre∧ ∀ K:St→Prop,K st'.toSt→Dk P I o st.toSt K):=by
 unfold pk
 split
 ·rename_i t len ps d hop hd
  split
  ·rename_i E n by' vs hsel hp
   split
   ·rename_i z hz
    split
    ·rename_i cs hf
     split
     ·rename_i l rs hea
      refine Yl.mIf fun hg=>?_
      simp only [Bool.and_eq_true,Nat.beq_eq,Nat.blt_eq,Nat.ble_eq,Bool.not_eq_true']at hg
      obtain⟨⟨g1,g2,g3,g4⟩,g5,g6,g7,g8,g9⟩:=hg
      subst g1
      generalize hr0:d::st.pre=r0 at g7 g8 g9 ⊢
      have hrs:r0∉rs:=(by grind [JQ])
      obtain⟨ars,ha,hl⟩:=P3 hea 0
      obtain⟨⟨H1,n1⟩,k4,k5⟩:=HQ hw (P4 rs r0)
      obtain⟨H2,n2⟩:=FB (l:=[(1000003::r0,DX.deep E (l.length:Nat) l none)]) n1 (fun p hp=>by rcases List.mem_singleton.1 hp with rfl;trivial) (by simp) (fun p hp e he q=>by
       rcases List.mem_singleton.1 hp with rfl
       have:=(ID (k5 e he).2.1).2.1
       exact this q)
      obtain⟨s1,s2,s3,s4,s5,_⟩:=C3 [(1000003::r0,DX.deep E (l.length:Nat) l none)] (st.killD (P4 rs r0))
      obtain⟨H3,n3⟩:=Ad.put_spec n2 (some d) (v:= .c (.c (.osl (1000003::r0)))) (by simp only [DV.ok,DC.ok])
      refine Yl.ret ⟨⟨H3,n3⟩,by grind [AB],fun K hK F a w G Q hI hR=>?_⟩
      obtain⟨p1,p2,p3⟩:=DI (key:=[]) hw (fun _ hl=>by cases hl) rfl hp
      obtain⟨z1,z2⟩:=EX hz
      obtain⟨f1,_⟩:=F4 hf
      rw [JL z (by omega),Pq]at f1
      change (st.toSt.parts true ps.toList).1 at p2
      change (st.toSt.parts true ps.toList).2=VU vs at p3
      rw [←p3]at f1
      obtain⟨arr',q1,q2,q3,q4,q5⟩:=FN hR hsel z1 f1 p2 (by rw [Ax];exact g2) g3 g4
      have hrun:(execOp a.eval o).run P w= .ok (.value (.slice (some ⟨w.heap.size,0,none⟩) len len)) (w.alloc (.cells arr' E)):=by
       simp [execOp,hop,q1]
      have hml:((Al cs).map HZ).length =len*T.sz E:=by grind
      have hrow:=hR.row r0 E (T.sz E) len len ((Al cs).map HZ) arr' arr'.toList (PU q2) (by grind) hml q4 (Nat.le_refl _) q5 true (fun _=>ha.pure)
      have hmemr:(⟨r0,some (E,T.sz E,len),(Al cs).map HZ,true⟩:Ak)∈(st.toSt.new ⟨r0,some (E,T.sz E,len),(Al cs).map HZ,true⟩).so :=by
       grind [St.new,Kx,Ak.kill]
      have hlkr:=hrow.look_of hmemr rfl g8 rfl
      obtain⟨G2,h2,h3,h4⟩:=hrow.deepen' hlkr rfl rfl ha.noi (id:=1000003::r0) rfl rfl
      have hown:G2.own (1000003::r0)=some (.slice (some ⟨w.heap.size,0,none⟩) len len):=by rw [h3];simp [Bo]
      have hL:=h2.lookD_of List.mem_cons_self rfl rfl
      have hb:G2.blk (1000003::r0)=some w.heap.size:=by
       obtain⟨hm,_⟩:=IS hL
       have hE:=h2.store _ hm
       grind [AJ]
      have h5:=h2.put (d:=some d) (v:= .slice (some ⟨w.heap.size,0,none⟩) len len) (x:= .c (.osl (1000003::r0))) (by simp only [Ab,Ac];exact⟨hown,rfl⟩)
      have hL5:=h5.lookD_of (e:=⟨1000003::r0,some (E,T.sz E,len),(Al cs).map HZ,true⟩) (id:=1000003::r0) (by simp only [St.put];exact List.mem_cons_self) rfl rfl
      have hent: ∀ e∈st.toSt.so,e.id ≠ r0→e.id ≠ 1000003::r0→(e.pu=true∨BF (P4 rs r0) e.cs=false)→e∈((st.toSt.new ⟨r0,some (E,T.sz E,len),(Al cs).map HZ,true⟩).killP (fun i=>i==r0||(i==1000003::r0||CI (1000003::r0) i)) (⟨1000003::r0,some (E,T.sz E,len),(Al cs).map HZ,true⟩::(((st.toSt.new ⟨r0,some (E,T.sz E,len),(Al cs).map HZ,true⟩).so.filter (fun d=>d.id != r0&&d.id != 1000003::r0)).map (Ak.killP (fun i=>i==r0||(i==1000003::r0||CI (1000003::r0) i)))))).so :=by
       intro e he e1 e2 e3
       simp only [St.killP,List.mem_cons,List.mem_map,List.mem_filter]
       right
       have hk:e.kill r0=e:=by
        obtain⟨i,r,c,pu⟩:=e
        cases pu with
        | true=>rfl
        | false=>
          rcases e3 with e3 | e3
          ·cases e3
          ·exact Ak.kill_eq (by
            simp only [Ak.fre,Bool.false_or,Bool.not_eq_true']
            cases hq:Bd r0 c with
            | false=>rfl
            | true=>
              have:=OL (P4 rs r0) r0 c e3 hq
              simp [P4,Az.2 rfl]at this)
       have hkp:e.killP (fun i=>i==r0||(i==1000003::r0||CI (1000003::r0) i))=e:=by
        obtain⟨i,r,c,pu⟩:=e
        cases pu with
        | true=>rfl
        | false=>
          rcases e3 with e3 | e3
          ·cases e3
          ·simp only [Ak.killP,Ak.mk.injEq,true_and,and_true]
           grind [Mf,Du,P4,ID]
       grind [St.new,Kx,St.kill]
      have hsub: ∀ i,(i==r0||(i==1000003::r0||CI (1000003::r0) i))=true→P4 rs r0 i=true:=(by grind [P4,ID])
      have hsub2: ∀ i,Mn rs (1000003::r0) i=true→P4 rs r0 i=true:=(by grind [ID])
      have hself:P4 rs r0 r0=true:=by grind
      have hval: ∀ v:V,v.menP (P4 rs r0)=false→AV (fun i=>i==r0||(i==1000003::r0||CI (1000003::r0) i)) (CN r0 v)=v:=(by grind [Ud,IE])
      have hcellD:(C.osl (1000003::r0)).menP (Mn rs (1000003::r0))=false:=by
       simp only [C.menP]
       have: ∀ rs':List Ae,(∀ x∈rs',Db x=false)→Mn rs' (1000003::r0) (1000003::r0)=false:=by
        intro rs'
        induction rs' with
        | nil=>
          intro _
          simp only [Mn,GC]
          cases hq:CI (1000003::r0) (1000003::r0)with
          | false=>rfl
          | true=>have:=DW hq;cases this
        | cons y rs' ih=>
          intro hy
          simp only [Mn]
          split
          ·rename_i hq
           have:=Az.1 hq
           have h8:=hy y (by simp)
           rw [←this]at h8;cases h8
          grind
       refine this rs fun x hx=>?_
       rw [←ha.ids]at hx
       obtain⟨ar,har,rfl⟩:=List.mem_map.1 hx
       exact DR (ha.at_ ar har).1
      obtain⟨G',q⟩:=h5.absorbL (p:=Mn rs (1000003::r0)) ars hL5 hb (fun ar har=>by
       obtain⟨p1,_,p3',p4⟩:=ha.at_ ar har
       obtain⟨hmr,hidr⟩:=AK p1
       have hnd:=DR p1
       have hin:ar.r∈rs:=by rw [←ha.ids];grind
       have hrr:ar.r ≠ r0:=(by grind)
       have hrD:ar.r ≠ 1000003::r0:=fun q=>by rw [q]at hnd;cases hnd
       obtain⟨v,v1,v2⟩:=PV q2 p4
       simp only [Ac]at v2
       refine⟨h5.look_of (hent _ hmr (by grind) (by grind) (.inl rfl)) hidr hnd rfl,by grind,Ua hin,v,?_,?_⟩
       all_goals simp_all [Bo]) (by rw [ha.ids];exact EP g6) ((AO [(1000003::r0,DX.deep E (l.length:Nat) l none)] (st.killD (P4 rs r0))).put (some d) (.c (.c (.osl (1000003::r0))))).toSt (by
       rw [Ad.put_toSt]
       refine Sk.put ?_ d (by grind [V.menP])
       have hnew:QO (1000003::r0,(DX.deep E (l.length:Nat) l none:DX T))=⟨1000003::r0,some (E,T.sz E,len),Fk ((Al cs).map HZ) ars,true⟩:=by
        show (⟨1000003::r0,some (E,T.sz E,l.length),As T E (l.length:Nat) 0 l,true⟩:Ak)=_
        have:=ha.sets [] [] rfl
        grind [E3]
       have etm:(AO [(1000003::r0,DX.deep E (l.length:Nat) l none)] (st.killD (P4 rs r0))).toSt.tm =(st.killD (P4 rs r0)).toSt.tm :=by grind [Ad.toSt]
       have egh:(AO [(1000003::r0,DX.deep E (l.length:Nat) l none)] (st.killD (P4 rs r0))).toSt.gh =(st.killD (P4 rs r0)).toSt.gh :=by simp only [Ad.toSt,s2]
       have hz2: ∀ (r:Ae),CN r .undef = .undef :=fun r=>by simp [CN,V.men]
       have hz3: ∀ (p:Ae→Bool),AV p .undef = .undef :=fun p=>by simp [AV,V.menP]
       have gm: ∀ (m:List V) (f:V→V),f .undef = .undef → ∀ i,(m.map f).getD i .undef =f (m.getD i .undef):=(by grind)
       refine⟨?_,fun i=>?_,?_,fun i=>?_,fun x hx=>?_,Dl n2.ok,?_⟩
       ·rw [etm]
        show (At _ _).length =_
        simp only [St.killP,St.new,St.kill,List.length_map,AS]
        show _=(At _ _).length
        rw [AS];rfl
       ·rw [etm]
        rcases PS (p:=P4 rs r0) st.m st.nx st.tm i with q | ⟨q,q'⟩
        ·exact .inl q
        ·right
         have e:(St.killP (st.toSt.new ⟨r0,some (E,T.sz E,len),(Al cs).map HZ,true⟩) (fun i=>i==r0||(i==1000003::r0||CI (1000003::r0) i)) (⟨1000003::r0,some (E,T.sz E,len),(Al cs).map HZ,true⟩::(((st.toSt.new ⟨r0,some (E,T.sz E,len),(Al cs).map HZ,true⟩).so.filter (fun d=>d.id != r0&&d.id != 1000003::r0)).map (Ak.killP (fun i=>i==r0||(i==1000003::r0||CI (1000003::r0) i)))))).tm.getD i .undef =st.toSt.tm.getD i .undef :=by
          simp only [St.killP,St.new,St.kill]
          rw [gm _ _ (hz3 _),gm _ _ (hz2 _)]
          exact hval _ q'
         rw [e]
         exact⟨q,Dv hsub2 _ q'⟩
       ·rw [egh]
        have:=(Wn (p:=P4 rs r0) st.gh (st.nx+st.tm.length)).1
        simp only [St.killP,St.new,St.kill,List.length_map]
        exact this
       ·rw [egh]
        rcases (Wn (p:=P4 rs r0) st.gh (st.nx+st.tm.length)).2 i with q | ⟨q,q'⟩
        ·exact .inl q
        ·right
         have e:(St.killP (st.toSt.new ⟨r0,some (E,T.sz E,len),(Al cs).map HZ,true⟩) (fun i=>i==r0||(i==1000003::r0||CI (1000003::r0) i)) (⟨1000003::r0,some (E,T.sz E,len),(Al cs).map HZ,true⟩::(((st.toSt.new ⟨r0,some (E,T.sz E,len),(Al cs).map HZ,true⟩).so.filter (fun d=>d.id != r0&&d.id != 1000003::r0)).map (Ak.killP (fun i=>i==r0||(i==1000003::r0||CI (1000003::r0) i)))))).gh.getD i .undef =st.toSt.gh.getD i .undef :=by
          simp only [St.killP,St.new,St.kill]
          rw [gm _ _ (hz3 _),gm _ _ (hz2 _)]
          exact hval _ q'
         rw [e]
         exact⟨q,Dv hsub2 _ q'⟩
       ·rw [s5]at hx
        simp only [List.map_cons,List.map_nil,List.singleton_append,List.mem_cons]at hx
        rcases hx with rfl | hx
        ·grind
        ·right
         obtain⟨e,he,rfl⟩:=List.mem_map.1 hx
         obtain⟨c1,c2,c3⟩:=k5 e he
         obtain⟨t1,t2,t3,_⟩:=ID c2
         have hpm:e.toE.pu=true∨BF (P4 rs r0) e.toE.cs=false:=by
          unfold DE.toE
          cases hx:e.x with
          | box cs=>
            right
            rw [hx]at c3
            simpa only [DX.menP,DP] using c3
          | row E l=>grind
          | deep E n l h=>grind
         refine⟨hent _ (List.mem_map.2 ⟨e,c1,rfl⟩) (by rw [DE.toE_id];exact t1) (by rw [DE.toE_id];exact t2) hpm,by rw [DE.toE_id];exact t2,?_,(by grind [Du])⟩
         rw [DE.toE_id,ha.ids]
         grind [NZ]
       ·show (AO _ _).pre =st.pre
        grind)
      grind [Ap]
     ·exact Yl.no
    ·exact Yl.no
   ·exact Yl.no
  ·exact Yl.no
 ·exact Yl.no
end Go.PL
set_option linter.all false
namespace Go.PL
open Go Go.RowKit
mutual
theorem Zo (p q:Ae→Bool): ∀ c:C,c.menP (fun i=>p i||q i)=(c.menP p||c.menP q)
 | .osl _=>rfl
 | .ptr _ _=>rfl
 | .rsl _ _ _ _=>rfl
 | .bsl _ _ _=>rfl
 | .bld _ _=>rfl
 | .mref _=>rfl
 | .clo _ cs=>by simp_all [C.menP,P5]
 | .bmv _ cs=>by simp_all [C.menP,P5]
 | .int .. =>rfl
 | .bool _=>rfl
 | .str _=>rfl
 | .sl .. =>rfl
 | .iptr .. =>rfl
 | .nilp =>rfl
 | .niface =>rfl
 | .nils =>rfl
 | .fn _=>rfl
 | .held =>rfl
 | .any =>rfl
 | .gptr .. =>rfl
 | .mp _=>rfl
 | .isl .. =>rfl
theorem P5 (p q:Ae→Bool): ∀ cs:List C,BF (fun i=>p i||q i) cs=(BF p cs||BF q cs)
 | []=>rfl
 | c::cs=>by
   simp only [BF,Zo p q c,P5 p q cs]
   grind
end
theorem bh (p q:Ae→Bool) (c:C):Bx q (Bx p c)=Bx (fun i=>p i||q i) c:=by
 unfold Bx
 rw [Zo]
 grind
theorem Ak.killP_or (p q:Ae→Bool) (e:Ak):(e.killP p).killP q=e.killP (fun i=>p i||q i):=by
 obtain⟨i,r,cs,_ | _⟩:=e
 all_goals simp_all [Ak.killP,bh]
def Ws (q id i:Ae):Bool:=i==q||(CI q i||CI id i)
def X7 (q id:Ae) (off:Nat) (i:Ae):Option Ae:=if i=q then none else match i with
 | m::k::r=>if m=1000007 then(if r=q then none else if r=id∧off≤k then some (1000007::(k - off)::q)else some (m::k::r))else some (m::k::r)
 | i=>some i
theorem d7 (k:Nat) (i:Ae):A9 k i=1000007::k::i:=rfl
theorem lu {q id:Ae} {off k:Nat} (hq:BX q=false) (hne:id ≠ q):X7 q id off (A9 (off+k) id)=some (A9 k q):=by
 unfold X7
 rw [if_neg (BD hq _).symm]
 simp [d7,hne]
theorem lw {q id:Ae} {off k:Nat} (hq:BX q=false) (hne:id ≠ q) (hk:k<off):X7 q id off (A9 k id)=some (A9 k id):=by
 unfold X7
 rw [if_neg (BD hq _).symm]
 simp [d7,hne]
 omega
theorem d8 {q id:Ae} {off:Nat} {i:Ae} (h:Ws q id i=false):X7 q id off i=some i:=by
 simp only [Ws,Bool.or_eq_false_iff,beq_eq_false_iff_ne]at h
 obtain⟨h1,h2,h3⟩:=h
 unfold X7
 rw [if_neg h1]
 split
 ·rename_i m k r
  split
  ·rename_i hm
   subst hm
   have a1:r ≠ q:=(by simp_all [CI])
   have a2:r ≠ id:=(by simp_all [CI])
   grind
  ·rfl
 ·rfl
theorem iw {q id:Ae} {off:Nat} {i j a:Ae} (h1:X7 q id off i=some a) (h2:X7 q id off j=some a):i=j:=by
 have key: ∀ i a,X7 q id off i=some a→(i=a∧(∀ k,a ≠ 1000007::k::q))∨ ∃ k,i=1000007::(off+k)::id∧a=1000007::k::q:=by
  intro i a h
  have short: ∀ i:Ae,i.length<2→X7 q id off i=some a→i=a:=fun i hi h=>by
   rcases i with _ | ⟨m,_ | ⟨k,r⟩⟩
   all_goals grind [X7]
  by_cases hl:i.length<2
  ·grind
  ·rcases i with _ | ⟨m,_ | ⟨k,r⟩⟩
   all_goals grind [X7]
 grind
def b0:C→C
 | .isl .. => .any
 | c=>c
theorem Wt: ∀ {cs:List C},Aj cs=true→Aj (cs.map b0)=true
 | [],_=>rfl
 | c::cs,h=>by
   simp only [List.map_cons,Aj,Bool.and_eq_true]at h ⊢
   exact⟨by cases c<;>first | exact h.1 | rfl,Wt h.2⟩
theorem Zp: ∀ cs:List C,(cs.map b0).all W9=true
 | []=>rfl
 | c::cs=>by
   simp only [List.map_cons,List.all_cons,Bool.and_eq_true]
   exact⟨by cases c<;>rfl,Zp cs⟩
theorem Wu {w:World} {G:Au}: ∀ {cs:List C} {vs:List Value},Ag w G cs vs→Ag w G (cs.map b0) vs
 | [],[],_=>by simp [Ag]
 | [],_::_,h=>by grind
 | _::_,[],h=>by simp [Ag]at h
 | c::cs,v::vs,h=>by
   simp only [Ag,List.map_cons]at h ⊢
   exact⟨by cases c<;>exact h.1,Wu h.2⟩
theorem P6 {w:World} {G:Au}: ∀ {cs:List C} {b o:Nat},Ai w G (cs.map b0) b o↔Ai w G cs b o
 | [],_,_=>Iff.rfl
 | c::cs,b,o=>by
   simp only [List.map_cons,Ai,P6 (cs:=cs)]
   cases c<;>exact Iff.rfl
section
variable {F:Fr} {st:St} {a:Act} {w:World} {G:Au}
theorem R.moveDeep (h:R F st a w G) {id q:Ae} {e eq:Ak} (hl:st.lookD id=some e) (hq:st.lookD q=some eq) (hne:id ≠ q) {b off:Nat} (hb:G.blk id=some b) (hoff:off≤e.cs.length) (hdr:e.cs.drop off=eq.cs.map b0)
 (hcell: ∀ k E n len cs v,eq.cs[k]? =some (.isl E n len cs)→G.own (A9 k q)=some v→w.cell? ⟨b,off+k,none⟩=some v):
 ∃ G',R F (st.killP (Ws q id) (((st.so.filter (fun d=>d.id != q)).map (Ak.killP (Ws q id))).map (setE id e.row (e.cs.take off++eq.cs)))) a w G'∧G'.own id=G.own id:=by
 obtain⟨hm,hid,hd,hmk,hpu,hpe,hi,E0,n0,len0,hr0⟩:=h.deepRow hl
 obtain⟨hmq,hidq,hdq,hmkq,hpuq,hpeq,hiq,_⟩:=h.deepRow hq
 let G':Au:=⟨fun i=>(X7 q id off i).bind G.blk,fun i=>(X7 q id off i).bind G.own,fun b=>F.av b∨ ∃ i,(X7 q id off i).bind G.blk=some b⟩
 have hag: ∀ i,Ws q id i=false→G'.blk i=G.blk i∧G'.own i=G.own i:=by
  intro i hpi
  simp only [G',d8 hpi,Option.bind_some,and_self]
 have t:Gn F (Ws q id) (fun _=>false) G G' w w:=Eo h G' rfl hag (by grind [Option.bind_eq_some_iff]) (fun i j b hib hjb=>by
  obtain⟨x,hx,hx2⟩:=Option.bind_eq_some_iff.1 hib
  obtain⟨y,hy,hy2⟩:=Option.bind_eq_some_iff.1 hjb
  have:=h.inj _ _ b hx2 hy2
  grind [iw])
 have pid:Ws q id id=false:=by
  grind [DW,Ws]
 have gid:=hag id pid
 have ghi: ∀ k,G'.blk (A9 (off+k) id)=G.blk (A9 k q)∧G'.own (A9 (off+k) id)=G.own (A9 k q):=fun k=>by
  simp only [G',lu hmkq hne,Option.bind_some,and_self]
 have glo: ∀ k,k<off→G'.blk (A9 k id)=G.blk (A9 k id)∧G'.own (A9 k id)=G.own (A9 k id):=fun k hk=>by
  simp only [G',lw hmkq hne hk,Option.bind_some,and_self]
 obtain⟨E1,n1,len1,v1,cap1,cur1,g1,g2,g3,g4,g5,g6,g7,g8,g9⟩:=h.deepRel hl hb
 have hcells:Aj (e.cs.take off++eq.cs)=true:=by
  rw [Bb,hpeq,Bool.and_true]
  grind [BI]
 have hlen:(e.cs.take off++eq.cs).length =e.cs.length:=by
  have:=congrArg List.length hdr
  grind
 have hno: ∀ cs:List C,Aj cs=true→FE (fun i=>Bd i cs=true) G G':=fun cs hp i hi'=>absurd (show Bd i cs=true from hi') (by rw [AE i cs hp];simp)
 have hrel:AJ w G' ⟨id,e.row,e.cs.take off++eq.cs,true⟩:=by
  unfold AJ
  rw [g1]
  refine⟨by grind,v1,by grind, .inr ⟨b,cap1,cur1,g4,by grind,g5,g6,g7,g8,?_⟩⟩
  have h9:=Ai.mono t.keeps _ _ _ (hno _ hpe) (fun _=>rfl) g9
  rw [←P6]at h9 ⊢
  have:(e.cs.take off++eq.cs).map b0=e.cs.map b0:=by
   rw [List.map_append, ←hdr]
   have e1:(e.cs.drop off).map b0=e.cs.drop off:=by
    rw [hdr,List.map_map]
    exact List.map_congr_left fun c _=>by cases c<;>rfl
   grind [List.take_append_drop]
  grind
 have hin:C7 w G' ⟨id,e.row,e.cs.take off++eq.cs,true⟩:=by
  intro j E2 n2 len2 cs2 hj
  by_cases hjo:j<off
  ·rw [List.getElem?_append_left (by simp;omega),List.getElem?_take_of_lt hjo]at hj
   obtain⟨k1,k2,b2,v2,k3,k4,k5⟩:=h.inner hl hj
   have gjj:=glo j hjo
   exact⟨k1,By t.keeps (hno _ k1) gjj (fun _ _=>rfl) k2,b2,v2,by grind,k4,by grind⟩
  ·obtain⟨k,rfl⟩: ∃ k,j=off+k:=(by grind)
   rw [List.getElem?_append_right (by simp;omega),List.length_take,Nat.min_eq_left hoff,Nat.add_sub_cancel_left]at hj
   obtain⟨k1,k2,b2,v2,k3,k4,k5⟩:=h.inner hq hj
   obtain⟨gh1,gh2⟩:=ghi k
   exact⟨k1,TP t.keeps k1 gh1 gh2 k2,b,v2,by grind,(by grind),by grind⟩
 have hents:=t.ents h hl (fun d=>d.id != q) (fun d hd' hf hne'=>by
  have hdm:=(h.deep d hd').1
  have hdq:d.id ≠ q:=by grind
  have ofF: ∀ x,CI x d.id=false:=(by grind [DW])
  refine⟨by simp [Ws,hdq,ofF],rfl,fun _ k=>⟨?_,rfl⟩⟩
  grind [BD,Ws,Fa]) (by rw [g1];rfl) hrel hin hcells
 exact⟨G',t.killed h _ hents.1 hents.2.1 hents.2.2.1 hents.2.2.2,gid.2⟩
end
variable {T:AN}
def Ue:Option (DC T)→Bool
 | some (.c .nils)=>true
 | _=>false
def iy (i:Ae) (j:Nat) (k:Ae) (s:Ad T):Option (Ad T):=match FY s i with
 | some cs=>match Ue cs[j]? with
   | true=>some (s.setX i (.box (cs.set j (.c (.osl k)))))
   | false=>none
 | none=>none
def Ad.own (st:Ad T) (i:Ae) (j:Nat) (k:Ae) (E:Nat):Option (Ad T):=match k with
 | 1000003::k0=>match st.new k0 (.row E [])with
   | some s=>match ou k0 s with
     | some s=>iy i j (1000003::k0) s
     | none=>none
   | none=>none
 | k=>match st.new k (.row E [])with
   | some s=>iy i j k s
   | none=>none
theorem Wv {o:Option (DC T)} (h:Ue o=true):o=some (.c .nils):=by
 grind [Ue]
theorem SA {H:Am T} {s s':Ad T} {i k:Ae} {j:Nat} (h:Av H s) (ho:iy i j k s=some s'):(∃ H',Nx H s H' s')∧s'.pre=s.pre∧ ∀ (F:Fr) (a:Act) (w:World) (G:Au),R F s.toSt a w G→G.own k=some (.slice none 0 0)→R F s'.toSt a w G:=by
 unfold iy at ho
 split at ho
 ·rename_i cs hb
  split at ho
  ·rename_i hn
   injection ho with ho;subst ho
   have hc:=Wv hn
   have hok:(DX.box (cs.set j (.c (.osl k)))).ok :=B8.2 fun c hm=>by
    rcases List.mem_or_eq_of_mem_set hm with q | q
    ·exact B8.1 (K2 h hb) c q
    grind [DC.ok]
   obtain⟨H2,n2⟩:=Ad.setX_nx h i hok
   refine⟨⟨H2,n2⟩,rfl,fun F a w G hR ho=>?_⟩
   obtain⟨hl,_,e,e1,e2,e3⟩:=Et hb
   have hnil:s.toSt.nilAt i j=true:=by
    unfold St.nilAt
    rw [hl]
    have:(Al cs)[j]? =some .nils :=by rw [BB,List.getElem?_map,hc];rfl
    grind
   have hset:(s.setX i (.box (cs.set j (.c (.osl k))))).toSt =s.toSt.setCell i j (.osl k):=by
    have hF:=Pn (t:=s.nx) (x:= .box (cs.set j (.c (.osl k)))) (F:=fun e=>if e.id==i&& !e.pu then⟨e.id,e.row,e.cs.set j (.osl k),false⟩else e) (id:=i)
     (by grind) h.nd e1 e2 (by
      simp_all [DE.toE,BB,DC.toC])
    simp_all [Ad.toSt,Ad.setX,St.setCell]
   rw [hset]
   exact hR.setCell hnil ho
  ·cases ho
 ·cases ho
theorem d9 {H:Am T} {st st':Ad T} {i k:Ae} {j E:Nat} (h:Av H st) (ho:st.own i j k E=some st'):(∃ H',Nx H st H' st')∧Wk st.toSt st'.toSt∧st'.pre=st.pre:=by
 unfold Ad.own at ho
 split at ho
 ·rename_i k0
  split at ho
  ·rename_i s hs
   split at ho
   ·rename_i s2 hs2
    obtain⟨⟨H1,n1⟩,h2,h3⟩:=Ad.new_spec h (x:= .row E []) trivial hs
    obtain⟨⟨H2,n2⟩,p2,k2⟩:=Wo n1.ok hs2
    obtain⟨⟨H3,n3⟩,p3,k3⟩:=SA n2.ok ho
    refine⟨⟨H3,(n1.trans n2).trans n3⟩,?_,by grind⟩
    intro F a w G hR
    have q1:=hR.nilRow k0 E (T.sz E)
    have e5:(⟨k0,0,DX.row E []⟩:DE T).toE =⟨k0,some (E,T.sz E,0),[],true⟩:=rfl
    rw [e5]at h2
    obtain⟨G',g1,g2⟩:=k2 _ _ _ _ (q1.less h2)
    exact⟨G',(by simp_all [Bo])⟩
   ·cases ho
  ·cases ho
 ·split at ho
  ·rename_i s hs
   obtain⟨⟨H1,n1⟩,h2,h3⟩:=Ad.new_spec h (x:= .row E []) trivial hs
   obtain⟨⟨H3,n3⟩,p3,k3⟩:=SA n1.ok ho
   refine⟨⟨H3,n1.trans n3⟩,?_,by rw [p3,h3]⟩
   intro F a w G hR
   have q1:=hR.nilRow k E (T.sz E)
   have e5:(⟨k,0,DX.row E []⟩:DE T).toE =⟨k,some (E,T.sz E,0),[],true⟩:=rfl
   rw [e5]at h2
   exact⟨_,k3 _ _ _ _ (q1.less h2) (by simp [Bo])⟩
  ·cases ho
def nilAt (st:Ad T) (i:Ae) (j:Nat):Bool:=match FY st i with
 | some cs=>Ue cs[j]?
 | none=>false
def Uf:List (Ae×Nat×Ae×Nat)→Ad T→Option (Ad T)
 | [],st=>some st
 | (i,j,k,E)::r,st=>match nilAt st i j with
   | false=>Uf r st
   | true=>match st.own i j k E with
     | some s=>Uf r s
     | none=>none
theorem Mq {H0:Am T} {st0:Ad T}: ∀ {l:List (Ae×Nat×Ae×Nat)} {st st':Ad T} {H:Am T},Nx H0 st0 H st→Uf l st=some st'→(∃ H',Nx H0 st0 H' st')∧Wk st.toSt st'.toSt∧st'.pre=st.pre
 | [],st,st',H,hN,h=>by
   simp only [Uf,Option.some.injEq]at h
   subst h
   exact⟨⟨H,hN⟩,Wk.less (Bk.refl _),rfl⟩
 | (i,j,k,E)::r,st,st',H,hN,h=>by
   simp only [Uf]at h
   split at h
   ·exact Mq hN h
   split at h
   ·rename_i s hs
    obtain⟨⟨H1,n1⟩,w1,p1⟩:=d9 hN.ok hs
    obtain⟨a,b,c⟩:=Mq (hN.trans n1) h
    exact⟨a,w1.trans b,c.trans p1⟩
   ·cases h
def J1 (q id i:Ae):Bool:=match AG i id with
 | true=>true
 | false=>match AG i q with
   | true=>true
   | false=>match GN.ofDT q i with
     | true=>true
     | false=>GN.ofDT id i
theorem Ug (q id:Ae):J1 q id=fun i=>(i==id)||Ws q id i:=by
 grind [J1,Ws,GC,BJ]
def pm (P:Program) (o:Oper) (st:Ad T):M (Ad T):=match o.op,o.dst with
 | .call c,some d=>match c.callee,c.args.toList,c.argTypes.toList with
   | .builtin .append,[u,x],[t,t']=>match st.arg [] u,st.arg [] x,BN P t with
     | some (.c (.c (.osl id))),some (.c (.c (.osl q))),some (E',n,by')=>match FZ st id,FZ st q with
       | some ⟨E,(nn,l,none)⟩,some ⟨E2,(mm,m,none)⟩=>match Wm E E2 m with
         | some m'=>mIf (Nat.beq t t'&&(Nat.beq E' E&&(Nat.beq n (T.sz E)&&(Nat.blt 0 n&&(Db id&&(Db q&& !AG id q)))))) (.opt (U3 by' l m') fun r=> .opt (Fb (nn=(l.length:Int)∧mm=(m'.length:Int)∧0<m'.length)) fun _=>
          .ret ((AO [(id, .deep E (r.length:Nat) r none)] (st.killF (J1 q id))).put (some d) (.c (.c (.osl id)))))
         | none=> .no
       | _,_=> .no
     | _,_,_=> .no
   | _,_,_=> .no
 | _,_=> .no
theorem ly {H:Am T} {P:Program} {I:World→Prop} {st:Ad T} (hw:Av H st) {o:Oper}:Yl (pm P o st) (fun st'=>(∃ H',Nx H st H' st')∧st'.pre=st.pre∧ ∀ K:St→Prop,K st'.toSt→Dk P I o st.toSt K):=by
 unfold pm
 split
 case h_2=>exact Yl.no
 rename_i c d hop hdst
 split
 case h_2=>exact Yl.no
 rename_i u x t t' hcal hargs htys
 split
 case h_2=>exact Yl.no
 rename_i id q E' n by' hu hx hsel
 split
 case h_2=>exact Yl.no
 rename_i E nn l E2 mm m hdi hdq
 split
 case h_2=>exact Yl.no
 rename_i m' hcast
 refine Yl.mIf fun hg=>Yl.opt fun r hr=>Yl.opt fun un hun=>?_
 simp only [Bool.and_eq_true,Nat.beq_eq,Nat.blt_eq,Bool.not_eq_true']at hg
 obtain⟨g1,g2,g3,g4,g5,g6,g7⟩:=hg
 subst g1 g2 g3
 obtain⟨e2,hm'⟩:=JW hcast
 subst e2
 replace hm':m'=m:=hm'
 subst hm'
 obtain⟨hnn,hmm,hm0⟩:=BP hun
 have hrx:=Vz hr
 have hrb:=KS hr
 have hne:id ≠ q:=fun e=>by rw [Az.2 e]at g7;cases g7
 obtain⟨hmki,_,ei,hei1,hei2,hei3⟩:=Bl hdi
 obtain⟨hmkq,_,eq,heq1,heq2,heq3⟩:=Bl hdq
 have hE:ei.toE=⟨id,some (E2,T.sz E2,l.length),As T E2 nn 0 l,true⟩:=by unfold DE.toE;rw [hei3,hei2];rfl
 have hQ:eq.toE=⟨q,some (E2,T.sz E2,m'.length),As T E2 mm 0 m',true⟩:=by unfold DE.toE;rw [heq3,heq2];rfl
 obtain⟨⟨H1,n1⟩,k1,k2,k3,k4,k5⟩:=Ad.killF_spec hw (J1 q id)
 obtain⟨H2,n2⟩:=FB (l:=[(id,DX.deep E2 (r.length:Nat) r none)]) n1 (fun p hp=>by rcases List.mem_singleton.1 hp with rfl;trivial) (by simp) (fun p hp e he q'=>by
  rcases List.mem_singleton.1 hp with rfl
  have:=k5 e he
  rw [Ug,q']at this
  simp at this)
 obtain⟨s1,s2,s3,s4,s5,_⟩:=C3 [(id,DX.deep E2 (r.length:Nat) r none)] (st.killF (J1 q id))
 obtain⟨H3,n3⟩:=Ad.put_spec n2 (some d) (v:= .c (.c (.osl id))) (by simp only [DV.ok,DC.ok])
 refine Yl.ret ⟨⟨H3,n3⟩,by rw [AB,s3];exact k4,fun K hK F a w G Q hI hR=>?_⟩
 obtain⟨a1,a2,a3⟩:=Ev hw hu
 obtain⟨b1,b2,b3⟩:=Ev hw hx
 have huv:=hR.arg rfl a2
 have hxv:=hR.arg rfl b2
 rw [a3]at huv
 rw [b3]at hxv
 simp only [DV.toV,DC.toC,Ab,Ac]at huv hxv
 have hmi:ei.toE∈st.toSt.so:=List.mem_map.2 ⟨ei,hei1,rfl⟩
 have hmq:eq.toE∈st.toSt.so:=List.mem_map.2 ⟨eq,heq1,rfl⟩
 have hL:st.toSt.lookD id=some ei.toE:=hR.lookD_of hmi (by rw [hE]) g5
 have hLq:st.toSt.lookD q=some eq.toE:=hR.lookD_of hmq (by rw [hQ]) g6
 have hpq:Aj eq.toE.cs=true:=hR.pures _ hmq (by rw [hQ])
 obtain⟨v,xs,c1,c2,c3,c4⟩:=Cq (e:=ei.toE) (by rw [hE]) (hR.store _ hmi)
 obtain⟨vq,us,d1,d2,d3,d4⟩:=Cq (e:=eq.toE) (by rw [hQ]) (hR.store _ hmq)
 rw [show ei.toE.id=id by rw [hE],huv.1]at c1
 injection c1 with c1
 rw [show eq.toE.id=q by rw [hQ],hxv.1]at d1
 injection d1 with d1
 obtain⟨i,z,hty,hi,hz,hsz,hby,hzs⟩:=A8 hsel
 rcases d4 with ⟨d4,d5⟩ | ⟨_,_,d4,_⟩
 case inr=>omega
 obtain⟨bq,capq,curq,p1,_,p2,p3,p4,p5,p6⟩: ∃ g cap cur,vq= .slice (some ⟨g,0,none⟩) m'.length cap∧0≤g∧w.heap[g]? =some (.cells cur E2 (0,0))∧m'.length≤cap∧cap≤maxLen∧cur.size=cap*T.sz E2∧cur.toList.take (m'.length*T.sz E2)=us:=by
  rcases d4.2 with ⟨_,h0⟩ | h1
  ·omega
  ·exact h1
 have hul:us.length=m'.length*T.sz E2:=d4.1
 have hbq:G.blk q=some bq:=by
  rw [←show eq.toE.id=q by rw [hQ], ←d5,p1];rfl
 have hnews: ∀ j u',us[j]? =some u'→w.cell? ((⟨bq,0,none⟩:Addr).add j)=some u':=d4.cells (g:=bq) (by rw [p1];rfl)
 have hone: ∀ u∈us,u.oneCell'=true:=Ag.one d3
 have hinner: ∀ k E2 n len cs v,eq.toE.cs[k]? =some (.isl E2 n len cs)→G.own (A9 k q)=some v→us[k]? =some v:=by
  intro k E2 n len cs v hk ho
  obtain⟨_,_,b2,v2,i1,i2,i3⟩:=hR.inner hLq hk
  rw [hbq]at i1;injection i1 with i1;subst i1
  rw [ho]at i3;injection i3 with i3;subst i3
  have hkl:k<us.length:=by
   have:=d3.length
   have:=(List.getElem?_eq_some_iff.1 hk).1
   omega
  have:=hnews k us[k] (List.getElem?_eq_getElem hkl)
  rw [Addr.add_mid]at this
  rw [List.getElem?_eq_getElem hkl]
  have e0:(⟨bq,0+k,none⟩:Addr)=⟨bq,k,none⟩:=by rw [Nat.zero_add]
  rw [e0,i2]at this
  exact this.symm
 have main: ∀ v0 v' w',(Builtin.append_ #[t,t] o.type #[a.eval u,a.eval x]).run P w= .ok v' w'→v0.ownBlock=G.blk id→(∀ b j u',G.blk id=some b→xs[j]? =some u'→w.cell? ⟨b,j,none⟩=some u')→w.ownsRow 0 E2 (T.sz E2) v0 l.length xs→w'.ownsRow 0 E2 (T.sz E2) v' (l.length+m'.length) (xs++us)→w.grownBy w' v0.ownBlock→(v'.ownBlock=v0.ownBlock∨ ∀ b,v'.ownBlock=some b→w.heap.size≤b)→o.wp P a w (U2 F K) Q:=by
  intro v0 v' w' hrun hob hxc hold hnew hg hfr
  obtain⟨f1,f2⟩:=hR.deepAppended hL (by rw [hE]) hob c3 (Wu d3) hxc hold hnew hg hfr (Wt hpq) (Zp _)
  have hrow:ei.toE.row=some (E2,T.sz E2,l.length):=by rw [hE]
  have hpe:ei.toE.killP (· ==id)=ei.toE:=by rw [hE];rfl
  have hD:=f1.lookD_of (e:=⟨id,some (E2,T.sz E2,l.length+m'.length),ei.toE.cs++eq.toE.cs.map b0,true⟩) (id:=id) (by
   refine List.mem_map.2 ⟨ei.toE,List.mem_map.2 ⟨ei.toE,hmi,hpe⟩,?_⟩
   rw [CH (by rw [hE]),hE]) rfl g5
  have hDq:=f1.lookD_of (e:=eq.toE) (id:=q) (by
   refine List.mem_map.2 ⟨eq.toE,List.mem_map.2 ⟨eq.toE,hmq,by rw [hQ];rfl⟩,?_⟩
   exact CG (by rw [hQ];exact hne.symm)) (by rw [hQ]) g6
  have hlx:xs.length=l.length*T.sz E2:=hold.1
  have hcl:ei.toE.cs.length=xs.length:=c3.length
  have hnl:(xs++us).length =(l.length+m'.length)*T.sz E2:=hnew.1
  obtain⟨g,cap,cur,r1,_,r2,r3,r4,r5,r6⟩: ∃ g cap cur,v'= .slice (some ⟨g,0,none⟩) (l.length+m'.length) cap∧0≤g∧w'.heap[g]? =some (.cells cur E2 (0,0))∧l.length+m'.length≤cap∧cap≤maxLen∧cur.size=cap*T.sz E2∧cur.toList.take ((l.length+m'.length)*T.sz E2)=xs++us:=by
   rcases hnew.2 with ⟨_,h0⟩ | h1
   ·omega
   ·exact h1
  have hcell: ∀ k v,us[k]? =some v→w'.cell? ⟨g,ei.toE.cs.length+k,none⟩=some v:=by
   intro k v hk
   have hrg:=A0 r2 (us:=xs++us) (rest:=cur.toList.drop ((l.length+m'.length)*T.sz E2)) (by rw [←r6,List.take_append_drop])
   have hkl:=(List.getElem?_eq_some_iff.1 hk).1
   have:=hrg (ei.toE.cs.length+k) v (by rw [hcl,List.getElem?_append_right (by omega),Nat.add_sub_cancel_left];exact hk)
   grind
  obtain⟨G',q1,q2⟩:=f1.moveDeep hD hDq hne (b:=g) (off:=ei.toE.cs.length) (by simp [Bo,r1,Value.ownBlock]) (by simp) (by simp) (fun k E2 n len cs v hk ho=>hcell k v (hinner k E2 n len cs v hk (by
   have:A9 k q ≠ id:=(BD hmki k).symm
   simpa [Bo,this] using ho)))
  have ea:c.args= #[u,x]:=by have:=congrArg List.toArray hargs;simpa using this
  have et:c.argTypes= #[t,t]:=by have:=congrArg List.toArray htys;simpa using this
  have hrun2:(execOp a.eval o).run P w= .ok (.value v') w':=by
   simp [execOp,hop,resolve,hcal,ea,et,invoke,builtin,hrun]
  refine Ap hrun2 ⟨_,G',hK,?_⟩
  rw [hdst]
  have hfin:=R.put (d:=some d) q1 (show Ab w' G' (V.c (C.osl id)) v' by simp only [Ab,Ac];exact⟨by rw [q2];simp [Bo],f2⟩)
  refine hfin.less ?_
  rw [Ad.put_toSt]
  have hval: ∀ v:V,AV (Ws q id) (AV (· ==id) v)=AV (J1 q id) v∨AV (J1 q id) v= .undef :=by
   intro v
   by_cases hh:v.menP (J1 q id)=true
   ·exact .inr (by unfold AV;rw [if_pos hh])
   ·have hh:v.menP (J1 q id)=false:=by simpa using hh
    left
    rw [Ug]at hh ⊢
    rw [IE (q:=(· ==id)) (fun i hi=>by simp only [beq_iff_eq]at hi;simp [hi]) hh,IE (q:=Ws q id) (fun i hi=>by simp [hi]) hh]
    unfold AV;rw [if_neg (by simp [hh])]
  have hls: ∀ l:List V,Fw ((l.map (AV (· ==id))).map (AV (Ws q id))) (l.map (AV (J1 q id))):=fun l=>by
   rw [List.map_map]
   exact Fw.map fun v _=>by
    rcases hval v with e | e
    ·exact .inr e.symm
    ·exact .inl e
  have htr: ∀ {a b c:List V},Fw a b→Fw b c→Fw a c:=by
   intro a b c h1 h2
   obtain⟨l1,g1⟩:=h1.get
   obtain⟨l2,g2⟩:=h2.get
   exact Fw.of (l2.trans l1) fun i=>by
    rcases g2 i with e | e
    ·exact .inl e
    ·rw [e];exact g1 i
  refine Bk.put (GD ?_ ?_ ?_ ?_ ?_) _ _
  ·have:(AO [(id,DX.deep E2 (r.length:Nat) r none)] (st.killF (J1 q id))).toSt.tm =(st.killF (J1 q id)).toSt.tm :=by simp only [Ad.toSt,s1,s4]
   rw [this]
   exact htr (hls _) k1
  ·have:(AO [(id,DX.deep E2 (r.length:Nat) r none)] (st.killF (J1 q id))).toSt.gh =(st.killF (J1 q id)).toSt.gh :=by simp only [Ad.toSt,s2]
   rw [this]
   exact htr (hls _) k2
  ·intro y hy
   rw [s5]at hy
   simp only [List.map_cons,List.map_nil,List.singleton_append,List.mem_cons]at hy
   simp only [St.killP,List.mem_map,List.mem_filter]
   rcases hy with rfl | hy
   ·refine⟨⟨id,some (E2,T.sz E2,l.length+m'.length),ei.toE.cs++eq.toE.cs.map b0,true⟩,⟨⟨id,some (E2,T.sz E2,l.length+m'.length),ei.toE.cs++eq.toE.cs.map b0,true⟩,⟨⟨ei.toE,⟨ei.toE,hmi,hpe⟩,by rw [CH (by rw [hE]),hE]⟩,by simpa using hne⟩,rfl⟩,?_⟩
    refine(CH rfl).trans ?_
    show (⟨id,_,(ei.toE.cs++eq.toE.cs.map b0).take ei.toE.cs.length++eq.toE.cs,true⟩:Ak)=⟨id,some (E2,T.sz E2,r.length),As T E2 (r.length:Nat) 0 r,true⟩
    rw [List.take_left',hrx,hE,hQ,List.length_append]
    ·congr 1
     simp only
     rw [E3 (by omega),E3 (by omega),E3 (by simp),List.flatMap_append]
    ·rfl
   ·rw [k3]at hy
    obtain⟨e3,h1,rfl⟩:=List.mem_map.1 hy
    obtain⟨h1,h2⟩:=List.mem_filter.1 h1
    rw [Ug]at h2 ⊢
    simp only [Bool.not_eq_true',Bool.or_eq_false_iff,beq_eq_false_iff_ne,Ws]at h2
    obtain⟨h2,h3,h4⟩:=h2
    refine⟨(e3.killP (· ==id)).killP (Ws q id),⟨e3.killP (· ==id),⟨⟨e3.killP (· ==id),⟨e3,h1,rfl⟩,CG (by rw [Ak.killP_id];exact h2)⟩,by rw [Ak.killP_id];simpa using h3⟩,rfl⟩,?_⟩
    rw [CG (by rw [Ak.killP_id,Ak.killP_id];exact h2),Ak.killP_or]
  ·exact Dl n2.ok
  ·rw [show (AO [(id,DX.deep E2 (r.length:Nat) r none)] (st.killF (J1 q id))).toSt.pre =st.pre from by show (AO _ _).pre =_;rw [s3];exact k4];rfl
 rw [show ei.toE.id=id by rw [hE]]at c4
 rcases c4 with ⟨c4,c5⟩ | ⟨p,hvp,h0,hxs,c5⟩
 ·have hxc: ∀ b j u',G.blk id=some b→xs[j]? =some u'→w.cell? ⟨b,j,none⟩=some u':=by
   intro b j u' hb' hj
   have:=c4.cells (g:=b) (by grind) j u' hj
   grind [Addr.add_mid]
  obtain⟨v',w',hrun,hown,hg,hfr⟩:=B4 (P:=P) (w:=w) t o.type E2 i z (T.sz E2) by' hty hi hz hsz hby hzs g4 v l.length xs c4 ⟨bq,0,none⟩ m'.length capq us hul hnews hone hrb.2 hrb.1
  exact main v v' w' (by rw [c1,d1,p1];exact hrun) c5 hxc c4 hown hg hfr
 ·have hxs':xs=[]:=hxs
  obtain⟨v',w',hrun,hown,hg,hfr⟩:=Dj (P:=P) (w:=w) t o.type E2 i z (T.sz E2) by' hty hi hz hsz hby hzs g4 p ⟨bq,0,none⟩ m'.length capq us hul hnews (by omega) (by have:=hrb.2;omega) (by have:=hrb.1;rw [h0,Nat.zero_add]at this;exact this)
  exact main (.slice none 0 0) v' w' (by rw [c1,d1,p1,hvp];exact hrun) c5.symm (by rw [c5];intro b j u' hb';cases hb') ⟨by rw [hxs',h0];simp, .inl ⟨rfl,h0⟩⟩ (by rw [hxs',h0,Nat.zero_add,List.nil_append];exact hown) (by exact hg) (.inr hfr)
theorem run_copy_none' {P:Program} (w:World) (dT sT ty elem:TypeId) (d a:Option Addr) (dLen dCap sLen sCap:Nat) (hu:P.underlying dT=some (.slice elem)) (hs:(P.info? elem).map (·.size)=some 1) (hn:Nat.min sLen dLen=0):
 (Builtin.copy_ #[dT,sT] ty #[.slice d dLen dCap, .slice a sLen sCap]).run P w= .ok (goInt 0) w:=by
 cases hq:P.info? elem with
 | none=>grind
 | some i=>
   have hl: ∀ (x:Addr),(loadCells x 0).run P w= .ok #[] w:=fun x=>by simpa using run_loadCells_list (P:=P) w x [] (by simp)
   cases d<;>cases a<;>simp [Builtin.copy_,run_underlying hu,Builtin.lenOf,Builtin.firstCells,sizeOf,typeInfo,hq,hn,storeCells,hl]
def pn (P:Program) (o:Oper) (st:Ad T):M (Ad T):=match o.op,o.dst with
 | .call c,some d=>match c.callee,c.args.toList,c.argTypes.toList with
   | .builtin .copy,[x,y],[t,_]=>match st.arg [] x,st.arg [] y,BZ P t with
     | some (.c (.c (.osl id))),some (.c y'),some (e,n)=>match CJ st id with
       | some ⟨E,l⟩=>match Fi false (.lst E) y' with
         | some m=>mIf (Nat.beq e E&&(Nat.beq n (T.sz E)&&Nat.beq n 1)) (.opt (Fb (m.length=l.length)) fun _=>
          .ret ((st.setX id (.row E m)).put (some d) (.c (.k (.int .i64) ((List.length l:Nat):Int)))))
         | none=> .no
       | none=> .no
     | _,_,_=> .no
   | _,_,_=> .no
 | _,_=> .no
theorem lA {H:Am T} {P:Program} {I:World→Prop} {st:Ad T} (hw:Av H st) {o:Oper}:Yl (pn P o st) (fun st'=>(∃ H',Nx H st H' st')∧st'.pre=st.pre∧ ∀ K:St→Prop,K st'.toSt→Dk P I o st.toSt K):=by
 unfold pn
 split
 case h_2=>exact Yl.no
 rename_i c d hop hdst
 split
 case h_2=>exact Yl.no
 rename_i x y t t2 hcal hargs htys
 split
 case h_2=>exact Yl.no
 rename_i id y' e n hx hy ht
 split
 case h_2=>exact Yl.no
 rename_i E l hr
 split
 case h_2=>exact Yl.no
 rename_i m hm
 refine Yl.mIf fun hg=>Yl.opt fun u hn=>Yl.ret ?_
 simp only [Bool.and_eq_true,Nat.beq_eq]at hg
 obtain⟨g1,g2,g3⟩:=hg
 subst g1
 have hsz1:T.sz e=1:=by omega
 have hlen:=BP hn
 obtain⟨a1,a2,a3⟩:=Ev hw hx
 obtain⟨b1,b2,b3⟩:=Ev hw hy
 obtain⟨hu,inf,hi1,hsz⟩:=BL ht
 obtain⟨H1,n1⟩:=Ad.setX_nx hw id (x:= .row e m) trivial
 obtain⟨H2,n2⟩:=Ad.put_spec n1 (some d) (v:= .c (.k (.int .i64) ((l.length:Nat):Int))) (by simp only [DV.ok,DC.ok])
 refine⟨⟨H2,n2⟩,by rw [AB];rfl,fun K hK F a w G Q hI hR=>?_⟩
 have hxv:=hR.arg rfl a2
 rw [a3]at hxv
 simp only [DV.toV,DC.toC,Ab,Ac]at hxv
 have hyv:=hR.arg rfl b2
 have hyc:y'.toC=AQ T.enc (.lst e) m:=(BS hm).2 rfl
 rw [b3]at hyv
 simp only [DV.toV,hyc,AQ,Ab,Ac]at hyv
 obtain⟨hpm,ad,cap2,hye,_,_,_,hrow⟩:=hyv
 obtain⟨v,v1,v2⟩:=hR.rowFacts hr
 rw [hxv.1]at v1
 injection v1 with v1
 have ea:c.args= #[x,y]:=by grind
 have et:c.argTypes= #[t,t2]:=by grind
 have hs1:(P.info? e).map (·.size)=some 1:=by grind
 have fin: ∀ w',(Builtin.copy_ #[t,t2] o.type #[a.eval x,a.eval y]).run P w= .ok (goInt l.length) w'→R F (st.setX id (.row e m)).toSt a w' G→o.wp P a w (U2 F K) Q:=by
  intro w' hrun hR'
  have hrun2:(execOp a.eval o).run P w= .ok (.value (goInt l.length)) w':=by
   simp_all [execOp,resolve,invoke,builtin]
  refine Ap hrun2 ⟨_,G,hK,?_⟩
  rw [hdst,Ad.put_toSt]
  exact hR'.put (by simp only [DV.toV,DC.toC,AQ,Ab,Ac,goInt])
 have same0:l.length=0→R F (st.setX id (.row e m)).toSt a w G:=by
  intro h0
  have hml:m=l:=by grind
  obtain⟨h1,_,e0,e1,e2,e3⟩:=Be hr
  refine hR.less ⟨rfl,fun i=> .inr rfl,fun z hz=>?_,fun _=>Dl n1.ok,⟨rfl,fun i=> .inr rfl⟩,rfl⟩
  obtain⟨e5,h5,rfl⟩:=List.mem_map.1 hz
  rcases setL_mem' hw.nd h5 with ⟨h6,_⟩ | h6
  ·exact List.mem_map.2 ⟨e5,h6,rfl⟩
  ·subst h6
   refine List.mem_map.2 ⟨e0,e1,?_⟩
   grind [DE.toE_row]
 rcases v2 with ⟨p,rfl,h0⟩ | ⟨b,cap,cur,rfl,v3,v4,v5,v6,v7,v8⟩
 ·grind [run_copy_none']
 ·by_cases h0:l.length=0
  ·grind [run_copy_none']
  ·rcases hrow with hrow | ⟨b2,off,rfl,hwr,hb2,hrow⟩
   ·omega
   ·obtain⟨us,u1,u2⟩:=hrow.list
    have hul:us.length=l.length:=by
     have h7:(List.flatMap (T.enc e) m).length =List.length m*T.sz e:=PW (fun y=>AA e y) m
     rw [←u1.length,h7,hsz1,Nat.mul_one,hlen]
    have hml:(m.flatMap (T.enc e)).length =l.length:=by rw [u1.length,hul]
    obtain⟨cur',T',s1,s2,s3⟩:=R.rowStored (m:=m) hR hw hr v3 (off:=0) u1 hpm hlen (by
     rw [List.take_zero,List.nil_append,Nat.zero_add,List.drop_eq_nil_of_le (by
      have h7:(List.flatMap (T.enc e) l).length =List.length l*T.sz e:=PW (fun y=>AA e y) l
      grind),List.append_nil]) (by grind)
    have hrun:=run_copy_row (P:=P) w t t2 o.type e b 0 l.length cap ⟨b2,off,none⟩ (List.length m) cap2 cur' T' us hu hs1 s1 (by grind) (fun j v hv=>by
     have:=u2 j v hv
     grind [Addr.add_mid]) (by omega) (Ag.one u1)
    grind
end Go.PL
namespace Go.PL
open Go Go.RowKit
variable {T:AN}
def jn {X R:Type} (J:X→Option R) (body:(X→Option R)→Option R):Option R:=body J
inductive Sp where
 | co
 | sub (md:Bool)
 | clr
 | apb
 | dlx
 | dsa
 | dse
 | mk
 | ss
 | ins
 | bf
 | sb
 | mld
 | mix
 | mst
 | lz
 | by_
 | ga
 | gl
 | ad
 | cp
 | au
inductive Gh where
 | tr (d:Nat)
 | dp (d:Nat)
 | fd (id:Ae)
 | ug (ks:List Nat)
mutual
inductive Hn where
 | n
 | s (a b:Hn)
 | j (sh:EY) (a b:Hn)
 | i (a b:Hn)
 | l (sh:EY) (xs:List (Nat×EY)) (b:Hn)
 | r (fz:List Ae) (ow:List (Ae×Nat×Ae×Nat)) (il:Hl)
 | x
inductive Hl where
 | n
 | c (k:Nat) (h:Hn) (r:Hl)
 | j (k:Nat) (sh:EY) (h:Hn) (r:Hl)
 | q (k:Nat) (sp:Sp) (r:Hl)
 | u (k:Nat) (ks:List Nat) (ke:List Ae) (kd:Kd) (h:Hn) (r:Hl)
 | g (k:Nat) (gh:Gh) (r:Hl)
 | t (r:Hl)
end
def Hn.a:Hn→Hn
 | .s a _=>a
 | .i a _=>a
 | _=> .n
def Hn.b:Hn→Hn
 | .s _ b=>b
 | .i _ b=>b
 | _=> .n
inductive HA where
 | n
 | c (h:Hn)
 | j (sh:EY) (h:Hn)
 | q (sp:Sp)
 | u (ks:List Nat) (ke:List Ae) (kd:Kd) (h:Hn)
def Hh:Hl→Nat→HA
 | .n,_=> .n
 | .c k h r,i=>match Nat.beq k i with
   | true=> .c h
   | false=>Hh r i
 | .j k sh h r,i=>match Nat.beq k i with
   | true=> .j sh h
   | false=>Hh r i
 | .q k sp r,i=>match Nat.beq k i with
   | true=> .q sp
   | false=>Hh r i
 | .u k ks ke kd h r,i=>match Nat.beq k i with
   | true=> .u ks ke kd h
   | false=>Hh r i
 | .g _ _ r,i=>Hh r i
 | .t r,i=>Hh r i
def po:Hl→Bool
 | .t _=>true
 | _=>false
def pp:Gh→Ad T→M (Ad T)
 | .tr d,st=>pe d st
 | .dp d,st=>ov d st
 | .fd id,st=>match st.frzD id with
   | some s=> .ret s
   | none=> .no
 | .ug ks,st=> .ret (nk ks st)
def Mr:Hl→Nat→Ad T→M (Ad T)
 | .n,_,st=> .ret st
 | .c _ _ r,i,st=>Mr r i st
 | .j _ _ _ r,i,st=>Mr r i st
 | .q _ _ r,i,st=>Mr r i st
 | .u _ _ _ _ _ r,i,st=>Mr r i st
 | .t r,i,st=>Mr r i st
 | .g k g r,i,st=>match Nat.beq k i with
   | true=> .bnd (pp g st) (Mr r i)
   | false=>Mr r i st
theorem lB {H:Am T} {st:Ad T} (hw:Av H st) (g:Gh):Yl (pp g st) (fun st'=>(∃ H',Nx H st H' st')∧st'.pre=st.pre∧Wk st.toSt st'.toSt):=by
 cases g<;>grind [kZ,dV,Yl.ret,lg,pp,bc,Yl.no]
theorem D5 (i:Nat): ∀ (il:Hl) {H:Am T} {st:Ad T},Av H st→Yl (Mr il i st) (fun st'=>(∃ H',Nx H st H' st')∧st'.pre=st.pre∧Wk st.toSt st'.toSt)
 | .n,H,st,hw=>Yl.ret ⟨⟨H,Nx.refl hw⟩,rfl,Wk.less (Bk.refl _)⟩
 | .c _ _ r,H,st,hw=>D5 i r hw
 | .j _ _ _ r,H,st,hw=>D5 i r hw
 | .q _ _ r,H,st,hw=>D5 i r hw
 | .u _ _ _ _ _ r,H,st,hw=>D5 i r hw
 | .t r,H,st,hw=>D5 i r hw
 | .g k g r,H,st,hw=>by
   unfold Mr
   split
   ·refine Yl.bnd (lB hw g) fun s hs=>?_
    obtain⟨⟨H1,n1⟩,p1,w1⟩:=hs
    refine(D5 i r n1.ok).mono fun s' hs'=>?_
    obtain⟨⟨H2,n2⟩,p2,w2⟩:=hs'
    exact⟨⟨H2,n1.trans n2⟩,p2.trans p1,w1.trans w2⟩
   ·exact D5 i r hw
def X8 (st:Ad T) (xs:List Operand):List Ae:=match Fj st [] xs with
 | some vs=>Lb vs
 | none=>[]
theorem HR: ∀ {l:List Ae} {st:Ad T} {H:Am T},Av H st→(Dx l st).pre =st.pre
 | [],_,_,_=>rfl
 | i::r,st,H,h=>by
   unfold Dx
   split
   ·rename_i s hs
    obtain⟨⟨H1,a⟩,_,_,b⟩:=Ad.frz_spec h hs
    rw [HR a.ok,b]
   ·exact HR h
theorem Dk.wk {P:Program} {I:World→Prop} {o:Oper} {A B:St} {K:St→Prop} (hk:Wk A B) (h:Dk P I o B K):Dk P I o A K:=fun F a w G Q hI hR=>by
 obtain⟨G',q⟩:=hk F a w G hR
 exact h F a w G' Q hI q
def X9 (st:Ad T):List (Nat×Operand)→List Ae
 | []=>[]
 | p::r=>X8 st [p.2]++X9 st r
def pq (P:Program) (o:Oper) (st:Ad T):M (Ad T):=match o.op with
 | .buildSlice _ _ ps=>aI P (Dx (X9 st ps.toList) st) o
 | _=> .no
theorem lC {H:Am T} {P:Program} {I:World→Prop} {st:Ad T} (hw:Av H st) {o:Oper}:Yl (pq P o st) (fun st'=>(∃ H',Nx H st H' st')∧st'.pre=st.pre∧ ∀ K:St→Prop,K st'.toSt→Dk P I o st.toSt K):=by
 unfold pq
 split
 ·rename_i ps hop
  obtain⟨⟨H1,n1⟩,w1⟩:=DO (l:=X9 st ps.toList) (Nx.refl hw)
  refine(NX n1.ok o).mono fun st' h=>?_
  obtain⟨⟨H2,n2⟩,h2,h3,h4⟩:=h
  refine⟨⟨H2,n1.trans n2⟩,h4.trans (HR hw),fun K hK=>Dk.wk w1 fun F a w G Q hI hR=>?_⟩
  obtain⟨nx,w',G',q1,q2⟩:=(KB hR h2).out
  unfold Oper.wp Oper.upon
  rw [q1]
  rcases q2 with ⟨v,rfl,q3⟩ | ⟨rfl,q3⟩
  ·exact⟨_,G',hK,q3.less h3⟩
  ·exact⟨_,G',hK,q3.less h3⟩
 ·exact Yl.no
def mG {P:Program} {I:World→Prop} (Γ:List (CE T P I)) (o:Oper) (st:Ad T):Sp→M (Ad T)
 | .co =>match A2 o.op,o.dst with
   | .call f xs,some d=>X1 Γ (Dx (X8 st xs) st) f xs d
   | _,_=> .no
 | .au => .no
 | .sub md=>ia P o md st
 | .clr =>kX P o st
 | .apb =>kY P o st
 | .dlx =>dlx P o st
 | .dsa =>dsa P o st
 | .dse =>dse P o st
 | .mk =>dmk P o st
 | .ss =>Ch P o st
 | .ins =>lh Γ o st
 | .bf =>pq P o st
 | .sb =>pk P o st
 | .mld =>li P o st
 | .mix =>lj P o st
 | .mst =>ll P o st
 | .lz => .no
 | .by_ =>pg P o st
 | .ga =>ph P o st
 | .gl =>pi Γ o st
 | .ad =>pm P o st
 | .cp =>pn P o st
theorem lD {H:Am T} {P:Program} {I:World→Prop} {Γ:List (CE T P I)} {st:Ad T} (hw:Av H st) (o:Oper) (sp:Sp):Yl (mG Γ o st sp) (fun st'=>(∃ H',Nx H st H' st')∧st'.pre=st.pre∧ ∀ K:St→Prop,K st'.toSt→Dk P I o st.toSt K):=by
 cases sp with
 | co=>
   unfold mG
   simp only
   split
   ·rename_i f xs d hk hd
    obtain⟨⟨H1,n1⟩,w1⟩:=DO (l:=X8 st xs) (Nx.refl hw)
    refine(a7 n1.ok hk hd).mono fun s ⟨⟨H2,n2⟩,p2,k2⟩=>⟨⟨H2,n1.trans n2⟩,p2.trans (HR hw),fun K hK=>Dk.wk w1 (k2 K hK)⟩
   ·exact Yl.no
 | au=>exact Yl.no
 | sub md=>exact(Zl hw).mono fun _ ⟨a,b,c⟩=>⟨a,b,fun K hK=>c.esc hK⟩
 | clr=>exact ib hw
 | apb=>exact ic hw
 | dlx=>exact(dU hw).mono fun _ ⟨a,b,c⟩=>⟨a,b,fun K hK=>c.esc hK⟩
 | dsa=>exact kV hw
 | dse=>exact kW hw
 | mk=>exact lb hw
 | ss=>exact lc hw
 | ins=>exact io hw
 | bf=>exact lC hw
 | sb=>exact lr hw
 | mld=>exact iq hw
 | mix=>exact ir hw
 | mst=>exact iu hw
 | lz=>exact Yl.no
 | by_=>exact lm hw
 | ga=>exact lp hw
 | gl=>exact lq hw
 | ad=>exact ly hw
 | cp=>exact lA hw
def pU (P:Program) (st:Ad T) (o:Oper):Bool:=match o.op with
 | .load t x=>match st.arg [] x with
   | some (.c (.rp id _ _ _))=>Db id&&(BZ P t).isSome
   | _=>false
 | _=>false
def p7 (st:Ad T) (o:Oper):Option Sp:=match o.op with
 | .store _ x y=>match st.arg [] x,st.arg [] y with
   | some (.c (.rp id _ _ _)),some v=>match Db id,v with
     | true, .c (.c (.osl _))=>some .dsa
     | true, .agg _=>some .dse
     | true,_=>some .ss
     | false,_=>none
   | _,_=>none
 | _=>none
def iz {P:Program} {I:World→Prop} (Γ:List (CE T P I)) (ops:Array Oper) (o:Oper) (st:Ad T) (sp:Sp):M (Ad T):=match o.guard,sp with
 | none, .au =>match pU P st o,p7 st o with
   | true,_=>mG Γ o st .dlx
   | false,some sp=>mG Γ o st sp
   | false,none=>mE Γ ops o st
 | none,sp=>mG Γ o st sp
 | some _,_=> .no
theorem Zq {H:Am T} {P:Program} {I:World→Prop} {Γ:List (CE T P I)} {ops:Array Oper} {st:Ad T} (hw:Av H st) (o:Oper) (sp:Sp):Yl (iz Γ ops o st sp) (dH H P I ops st o):=by
 have A: ∀ sp,o.guard=none→Yl (mG Γ o st sp) (dH H P I ops st o):=fun sp hg=>(lD hw o sp).mono fun s ⟨a,b,c⟩=>⟨a,b,fun K hK=>by unfold RC;rw [hg];exact .inl (c K hK)⟩
 unfold iz
 grind [TW,Yl.no]
def Ms (P:Program) (I:World→Prop) (ops:Array Oper):List Oper→St→(St→Prop)→Prop
 | [],st,K=> ∃ s,Wk st s∧K s
 | o::rest,st,K=> ∃ s,Wk st s∧RC P I ops o s (fun st'=>Ms P I ops rest st' K)
theorem P7 {P:Program} {F:Fr} {ops:Array Oper} {Q:Exit→Act→World→Prop} {K:St→Prop} (hQ: ∀ st' a' w' G',K st'→R F st' a' w' G'→Q .normal a' w'):
 ∀ (l:List Oper) (st:St) (a:Act) (w:World) (G:Au),R F st a w G→Ms P F.I ops l st K→wpList P ops Q l a w
 | [],st,a,w,G,h,⟨s,hwk,hs⟩=>by
   obtain⟨G',h'⟩:=hwk _ _ _ _ h
   exact hQ s a w G' hs h'
 | o::rest,st,a,w,G,h,⟨s,hwk,hs⟩=>by
   obtain⟨G',h'⟩:=hwk _ _ _ _ h
   refine wpList_step fun K' hK'=>?_
   have hnext: ∀ a' w',U2 F (fun st'=>Ms P F.I ops rest st' K) a' w'→K' a' w':=fun a' w' ⟨st',G',q,hR⟩=>
    hK' a' w' (P7 hQ rest st' a' w' G' hR q)
   have:=IT (Q:=Q) h' hs
   split at this
   ·rename_i hw
    rw [if_pos hw]
    grind [Oper.wp_mono]
   grind
theorem Ah.regionW {P:Program} {F:Fr} {st:St} {id:Nat} {ops:Array Oper} {Q:Exit→St→Prop} (h:Ms P F.I ops ops.toList st (Q .normal)):Ah P F (.region id ops false) st Q:=
 fun _ _ G hR=>wp_region_list (P7 (K:=Q .normal) (fun st' _ _ G' q hR'=>⟨st',G',q,hR'⟩) _ _ _ _ G hR h)
def bi (T:AN):=(R:Type)→Code→Hn→Ad T→(Exit→Ad T→Option R)→Option R
def Ww (P:Program) (I:World→Prop) (rec:bi T):Prop:= ∀ (R:Type) (c:Code) (h:Hn) (st:Ad T) (H:Am T) (K:Exit→Ad T→Option R) (r:R),Av H st→rec R c h st K=some r→
 ∀ (F:Fr) (Q:Exit→St→Prop),F.I=I→(∀ H' e st',Nx H st H' st'→K e st'=some r→Q e st'.toSt)→Ah P F c st.toSt Q
def N2:DV T→Option (FuncId×Bool×List (DC T))
 | .c (.c (.fn f))=>some (f,false,[])
 | .c (.clo b f cs)=>some (f,b,cs)
 | _=>none
def I1 (b:Bool) (caps vs:List (DV T)):List (DV T):=match b with
 | true=>caps++vs
 | false=>vs++caps
def bj:Option Nat→Nat
 | some d=>d
 | none=>0
def ec (P:Program) (fn:Func) (o:Oper) (st:Ad T) (R:Type) (K:Ad T→Option R) (e:Exit) (stc:Ad T):Option R:=match e with
 | .normal =>dP P stc fn.results.toList R fun v=>match stc.back st o.dst v with
   | some s=>K s
   | none=>none
 | .ret =>dP P stc fn.results.toList R fun v=>match stc.back st o.dst v with
   | some s=>K s
   | none=>none
 | _=>none
def Ya (P:Program) (rec:bi T) (o:Oper) (h:Hn) (st:Ad T) (R:Type) (K:Ad T→Option R):Option R:=
 match o.op,o.guard with
 | .call c,none=>match c.callee with
   | .value x=>match N2 (st.ev x),Fj st [] c.args.toList with
     | some (f,b,cs),some vs=>match P.funcs[f]? with
       | some fn=>match fn.body with
         | some body=>match ent P f&&Nat.ble (I1 b (cs.map DV.c) vs).length fn.ntmps with
           | true=>rec R body h (st.enter (bj o.dst) (I1 b (cs.map DV.c) vs) fn.ntmps) (ec P fn o st R K)
           | false=>none
         | none=>none
       | none=>none
     | _,_=>none
   | _=>none
 | _,_=>none
def lE (ks:List Nat) (ke:List Ae):EY:=⟨ks,[],ke,[]⟩
def pv (ops:Array Oper) (o:Oper) (st:Ad T):Option (List GL×Nat):=match o.guard,o.dst with
 | some (j,want),some d=>match PE st ops j want with
   | some key=>some (key,d)
   | none=>none
 | _,_=>none
def NJ (key:List GL):List Operand→Ad T→Ad T
 | [],st=>st
 | .tmp t::r,st=>match st.get t with
   | .g k v=>match JD k key with
     | true=>NJ key r (st.put (some t) v)
     | false=>NJ key r st
   | _=>NJ key r st
 | _::r,st=>NJ key r st
def ed (o:Oper):List Operand:=match o.op with
 | .call c=>c.args.toList
 | _=>[]
theorem HS {key:List GL} (hc:AF key=true): ∀ {l:List Operand} {H:Am T} {st:Ad T},Av H st→Df H st.nx key→(∃ H',Nx H st H' (NJ key l st))∧(NJ key l st).pre =st.pre∧ ∀ F a w G,R F st.toSt a w G→R F (NJ key l st).toSt a w G
 | [],H,st,hw,_=>⟨⟨H,Nx.refl hw⟩,rfl,fun _ _ _ _ h=>h⟩
 | .tmp t::r,H,st,hw,hk=>by
   unfold NJ
   split
   ·rename_i k v hg
    split
    ·rename_i hs
     have hok:=Ad.get_ok hw t
     rw [hg]at hok
     simp only [DV.ok]at hok
     have hck:=Ik hs hok.1 hk hc
     obtain⟨H1,n1⟩:=Ad.put_nx hw (some t) (hok.2 hck)
     have hk1:Df H1 (st.put (some t) v).nx key:=fun l hl=>GL.ok_ext n1.ext n1.le (hk l hl)
     obtain⟨⟨H2,n2⟩,p2,h2⟩:=HS (l:=r) hc n1.ok hk1
     refine⟨⟨H2,n1.trans n2⟩,p2.trans (AB _ _ _),fun F a w G hR=>h2 F a w G ?_⟩
     rw [Ad.put_toSt]
     refine hR.reslot ?_
     have hsl:Ab w G (st.toSt.get t) (a.tmps.getD t Go.undef):=hR.slots t
     rw [st.get_toSt t,hg]at hsl
     simp_all [DV.toV,Ab]
    ·exact HS hc hw hk
   ·exact HS hc hw hk
 | .const _::r,H,st,hw,hk=>by unfold NJ;exact HS hc hw hk
 | .func _::r,H,st,hw,hk=>by unfold NJ;exact HS hc hw hk
 | .global _::r,H,st,hw,hk=>by unfold NJ;exact HS hc hw hk
def P8 {P:Program} {I:World→Prop} (Γ:List (CE T P I)) (rec:bi T) (ops:Array Oper) (il:Hl):List Oper→Nat→Ad T→(R:Type)→(Ad T→Option R)→Option R
 | [],k,st,R,K=>Mr il k st R K
 | o::rest,k,st,R,K=>Mr il k st R fun st=>match Hh il k with
   | .n =>mE Γ ops o st R fun st'=>P8 Γ rec ops il rest (k+1) st' R K
   | .q sp=>iz Γ ops o st sp R fun st'=>P8 Γ rec ops il rest (k+1) st' R K
   | .c h=>Ya P rec o h st R fun st'=>P8 Γ rec ops il rest (k+1) st' R K
   | .j sh h=>jn (fun v:RT T sh.ts=>match sh.inst st (BA sh.ts v)with
    | some s=>P8 Γ rec ops il rest (k+1) s R K
    | none=>none) (fun j=>Ya P rec o h st R fun b=>match sh.gen st b with
    | some v=>j v
    | none=>none)
   | .u ks ke kd h=>match IU kd,pv ops o st with
    | true,some (key,d)=>jn (fun x:KZ T.den kd=>P8 Γ rec ops il rest (k+1) (((lE ks ke).base st).put (some d) (.g key (.c (.k kd x)))) R K)
     (fun j=>if AF key=true then Ya P rec {o with guard:=none} h (NJ key (ed o) st) R fun b=>match (lE ks ke).gen st b,TR kd (b.get d)with
      | some _,some x=>j x
      | _,_=>none
     else j (jE T kd))
    | _,_=>none
section
variable {H:Am T} {P:Program} {I:World→Prop} {Γ:List (CE T P I)} {rec:bi T} {st:Ad T} {ops:Array Oper}
theorem Nr {n:Nat} {a b:List (DV T)} (h:BR H n a) (k:BR H n b):BR H n (a++b):=(by grind [Ii])
theorem Ns (a b:List (DV T)):AH (a++b)=AH a++AH b:=by simp [Ih]
theorem SB (cs:List (DC T)):AH (cs.map DV.c)=(Al cs).map V.c:=by
 simp_all [Ih,BB,DV.toV]
theorem Li (hrec:Ww P I rec) (hw:Av H st) {o:Oper} {h:Hn} {R:Type} {K:Ad T→Option R} {r:R} (hr:Ya P rec o h st R K=some r)
 {PK:St→Prop} (hK: ∀ H' st',Nx H st H' st'→st'.pre=st.pre→K st'=some r→PK st'.toSt):o.guard=none∧Dk P I o st.toSt PK:=by
 unfold Ya at hr
 split at hr
 ·rename_i c hop hgd
  refine⟨hgd,?_⟩
  split at hr
  ·rename_i x hcal
   split at hr
   ·rename_i f b cs vs hf hvs
    split at hr
    ·rename_i fn hfn
     split at hr
     ·rename_i body hbody
      split at hr
      ·rename_i hm
       simp only [Bool.and_eq_true,Nat.ble_eq]at hm
       obtain⟨hent,hlen⟩:=hm
       obtain⟨a1,a2,a3⟩:=Cg (key:=[]) hw (He _ _) rfl hvs
       change (st.toSt.args true c.args.toList).1 at a2
       change (st.toSt.args true c.args.toList).2=AH vs at a3
       have hev:=Ad.ev_ok hw x
       have hevt:=st.ev_toSt x
       have hcs:Bs cs:=by
        unfold N2 at hf
        split at hf
        ·simp only [Option.some.injEq,Prod.mk.injEq]at hf
         obtain⟨rfl,rfl,rfl⟩:=hf
         simp [Bs]
        ·rename_i b' f' cs' he
         simp only [Option.some.injEq,Prod.mk.injEq]at hf
         obtain⟨rfl,rfl,rfl⟩:=hf
         grind [DV.ok,DC.ok]
        ·cases hf
       have hcaps:BR H st.nx (cs.map DV.c):=Ii.2 fun v hv=>by
        obtain⟨d,h1,rfl⟩:=List.mem_map.1 hv
        grind [DV.ok,B8]
       have hargs:BR H st.nx (I1 b (cs.map DV.c) vs):=by
        cases b
        ·exact Nr a1 hcaps
        ·exact Nr hcaps a1
       obtain⟨H1,n1⟩:=dO hw (bj o.dst) fn.ntmps hargs
       have hst:=XY (st:=st) (k:=bj o.dst) hlen
       have hm:st.toSt.tm.length=st.m:=AS _ _
       have main: ∀ w0 av old gv,Ah P ⟨w0,av,old,I,gv⟩ body (st.toSt.enter (bj o.dst) (AH (I1 b (cs.map DV.c) vs)) fn.ntmps) (mA P fn.results.toList st.toSt.tm.length st.toSt.pre o.dst PK):=by
        intro w0 av old gv
        rw [←hst]
        refine hrec _ _ _ _ _ _ _ n1.ok hr ⟨w0,av,old,I,gv⟩ _ rfl fun H' e stc hN hE=>?_
        have fin:dP P stc fn.results.toList R (fun v=>match stc.back st o.dst v with | some s=>K s | none=>none)=some r→
         (Cu P stc.toSt fn.results.toList).1∧PK (stc.toSt.back st.toSt.tm.length st.toSt.pre o.dst (Cu P stc.toSt fn.results.toList).2):=by
         intro hE
         obtain⟨v,⟨v1,v2,v3⟩,hE⟩:=hO hN.ok fn.results.toList R _ r hE
         split at hE
         ·rename_i s hs
          obtain⟨⟨H2,b1⟩,b2,b3⟩:=aX (n1.trans hN) v1 hs
          refine⟨v2,?_⟩
          have:=hK H2 s b1 b3 hE
          rw [b2]at this
          rw [v3,hm]
          exact this
         ·cases hE
        cases e<;>simp only [mA]<;>first
         | exact fin hE
         | grind [ec]
       cases b with
       | false=>
         have hcv:NR st.toSt x=some (f,Al cs):=by
          unfold NR
          rw [hevt]
          unfold N2 at hf
          split at hf
          ·rename_i f' he
           simp only [Option.some.injEq,Prod.mk.injEq]at hf
           obtain⟨rfl,_,rfl⟩:=hf
           grind [DV.toV,DC.toC,Al]
          ·rename_i b' f' cs' he
           simp only [Option.some.injEq,Prod.mk.injEq]at hf
           obtain⟨rfl,rfl,rfl⟩:=hf
           grind [DV.toV,DC.toC]
          ·cases hf
         refine Dk.inline (bj o.dst) hop hcal rfl (s:=(st.toSt.args true c.args.toList).1) (vs:=AH vs) (by rw [←a3]) a2 hcv hent hfn hbody rfl (rs:=fn.results.toList) (by simp) ?_
         grind [I1,Ns,SB]
       | true=>
         have hcv:st.toSt.ev x= .c (.bmv f (Al cs)):=by
          rw [hevt]
          unfold N2 at hf
          split at hf
          ·simp at hf
          ·rename_i b' f' cs' he
           simp only [Option.some.injEq,Prod.mk.injEq]at hf
           obtain⟨rfl,rfl,rfl⟩:=hf
           grind [DV.toV,DC.toC]
          ·cases hf
         refine Dk.inlineB (bj o.dst) hop hcal rfl (s:=(st.toSt.args true c.args.toList).1) (vs:=AH vs) (by rw [←a3]) a2 hcv hent hfn hbody rfl (rs:=fn.results.toList) (by simp) ?_
         grind [I1,Ns,SB]
      ·cases hr
     ·cases hr
    ·cases hr
   ·cases hr
  ·cases hr
 ·cases hr
theorem iA {P:Program} {I:World→Prop} {ops:Array Oper} {PK:St→Prop} {A B:St} (h:Wk A B): ∀ {l:List Oper},Ms P I ops l B PK→Ms P I ops l A PK
 | [],⟨s,h1,h2⟩=>⟨s,h.trans h1,h2⟩
 | _::_,⟨s,h1,h2⟩=>⟨s,h.trans h1,h2⟩
theorem bk (sh:EY) {H:Am T} {st:Ad T} (hw:Av H st):Bk st.toSt (sh.base st).toSt :=by
 refine⟨?_,fun i=>?_,fun e he=>?_,fun _=>?_,⟨rfl,fun i=> .inr rfl⟩,rfl⟩
 ·show (At _ _).length =(At _ _).length
  rw [AS,AS];rfl
 ·show (At st.m (Ey sh.ks st.tm)).getD i .undef = .undef ∨(At st.m (Ey sh.ks st.tm)).getD i .undef =(At st.m st.tm).getD i .undef
  rw [G5,G5]
  split
  ·rw [IW]
   split
   ·grind
   grind [DV.toV]
  grind
 ·obtain⟨d,hd,rfl⟩:=List.mem_map.1 he
  exact List.mem_map.2 ⟨d,(Ez sh.ke st.so).1.subset hd,rfl⟩
 ·exact Dl (EY.base_nx sh hw).ok
theorem eg {A B:St} (h:Bk A B) (d:Option Nat) (x:V):Bk (A.put d x) (B.put d x):=by
 cases d with
 | none=>exact h
 | some d=>
   refine⟨by simp [St.put,h.len],fun i=>?_,h.so,h.nd,h.gh,h.pre⟩
   have hl:=h.len
   have:=h.tm i
   simp only [St.put,List.getD_eq_getElem?_getD,List.getElem?_set,hl]at this ⊢
   grind
theorem eh {H:Am T} {st:Ad T} {ops:Array Oper} {o:Oper} {key:List GL} {d:Nat} (hw:Av H st) (h:pv ops o st=some (key,d)): ∃ j want,o.guard=some (j,want)∧o.dst=some d∧EG st.toSt ops j want=some (AF key)∧Df H st.nx key:=by
 unfold pv at h
 split at h
 ·rename_i j want d' hg hd
  split at h
  ·rename_i key' hk
   simp only [Option.some.injEq,Prod.mk.injEq]at h
   obtain⟨rfl,rfl⟩:=h
   grind [Ix]
  ·cases h
 ·cases h
theorem Zr (hrec:Ww P I rec) (il:Hl): ∀ (l:List Oper) (k:Nat) (st:Ad T) (H:Am T),Av H st→ ∀ (R:Type) (K:Ad T→Option R) (r:R),P8 Γ rec ops il l k st R K=some r→
 ∀ PK:St→Prop,(∀ H' st',Nx H st H' st'→st'.pre=st.pre→K st'=some r→PK st'.toSt)→Ms P I ops l st.toSt PK
 | [],k,st,H,hw,R,K,r,hr,PK,hK=>by
   simp only [P8]at hr
   obtain⟨s,⟨⟨H1,n1⟩,p1,w1⟩,hr⟩:=D5 k il hw R _ r hr
   exact⟨s.toSt,w1,hK H1 s n1 p1 hr⟩
 | o::rest,k,st0,H,hw,R,K,r,hr,PK,hK=>by
   simp only [P8]at hr
   obtain⟨st,⟨⟨H0,n0⟩,p0,w0⟩,hr⟩:=D5 k il hw R _ r hr
   refine⟨st.toSt,w0,?_⟩
   replace hK: ∀ H' st',Nx H0 st H' st'→st'.pre=st.pre→K st'=some r→PK st'.toSt:=fun H' s n p q=>hK H' s (n0.trans n) (p.trans p0) q
   replace hw:=n0.ok
   have nxt: ∀ (H1:Am T) (st':Ad T),Nx H0 st H1 st'→st'.pre=st.pre→P8 Γ rec ops il rest (k+1) st' R K=some r→Ms P I ops rest st'.toSt PK:=fun H1 st' n1 p1 q=>
    Zr hrec il rest (k+1) st' H1 n1.ok R K r q PK fun H' s n p q=>hK H' s (n1.trans n) (p.trans p1) q
   split at hr
   ·obtain⟨st',⟨⟨H1,n1⟩,p1,w1⟩,hr⟩:=TW hw o R _ r hr
    grind
   ·rename_i sp _
    obtain⟨st',⟨⟨H1,n1⟩,p1,w1⟩,hr⟩:=Zq hw o sp R _ r hr
    grind
   ·rename_i h _
    obtain⟨g1,g2⟩:=Li (PK:=fun s=>Ms P I ops rest s PK) hrec hw hr fun H' s n p q=>nxt H' s n p q
    simp only [RC,g1]
    exact .inl g2
   ·rename_i sh h _
    unfold jn at hr
    obtain⟨g1,g2⟩:=Li (PK:=fun s=> ∃ s',Wk s s'∧Ms P I ops rest s' PK) hrec hw hr fun H' s n p q=>by
     split at q
     ·rename_i v hg
      dsimp only at q
      split at q
      ·rename_i s' hi
       obtain⟨H2,n2⟩:=EY.inst_nx hw (C2 sh.ts v) hi
       have hp:s'.pre=st.pre:=by
        unfold EY.inst at hi
        split at hi
        ·rename_i s1 us h1
         split at hi
         ·rename_i s2 us2 h2
          injection hi with hi;subst hi
          obtain⟨⟨Ha,na⟩,nb,_,_,np,_⟩:=GB (sh.base_nx hw) (C2 sh.ts v) h1
          obtain⟨_,_,_,mp,_⟩:=HJ na nb h2
          rw [mp,np];rfl
         ·cases hi
        ·cases hi
       grind [EY.gen_ok]
      ·cases q
     ·cases q
    simp only [RC,g1]
    refine .inl ?_
    intro F a w G Q hI hR
    refine Oper.wp_mono (fun _ _ ⟨_,G',⟨s',hwk,hp⟩,hR'⟩=>?_) (g2 F a w G Q hI hR)
    obtain⟨G'',q⟩:=hwk _ _ _ _ hR'
    grind
   ·rename_i ks ke kd h _
    split at hr
    ·rename_i key d hfk hdg
     unfold jn at hr
     dsimp only at hr
     obtain⟨j,want,e1,e2,e3,e4⟩:=eh hw hdg
     have main: ∀ x:KZ T.den kd,P8 Γ rec ops il rest (k+1) (((lE ks ke).base st).put (some d) (.g key (.c (.k kd x)))) R K=some r→Ms P I ops rest (((lE ks ke).base st).put (some d) (.g key (.c (.k kd x)))).toSt PK:=fun x q=>by
      have nb:=EY.base_nx (lE ks ke) hw
      obtain⟨H2,n2⟩:=Hd (st:=(lE ks ke).base st) nb.ok e4 (some d) (v:= .c (.k kd x)) (by grind [DV.ok,DC.ok])
      exact nxt H2 _ (nb.trans n2) (by rw [AB];rfl) q
     simp only [RC,e1,e3]
     refine .inl ⟨fun hc=> .inl ?_,fun hc=>?_⟩
     ·rw [if_pos hc]at hr
      obtain⟨⟨Hu,nu⟩,_,hu⟩:=HS (l:=ed o) hc hw e4
      obtain⟨_,g2⟩:=Li (PK:=fun s=> ∃ s',Wk s s'∧Ms P I ops rest s' PK) hrec nu.ok hr fun H' b n' _ q=>by
       have n:=nu.trans n'
       split at q
       ·rename_i v0 x hg hx
        refine⟨_,?_,main x q⟩
        have hwk:=EY.gen_ok hw n hg (s1:=(lE ks ke).base st) rfl
        intro F a w G hR
        obtain⟨G',q'⟩:=hwk F a w G hR
        refine⟨G',?_⟩
        rw [Ad.put_toSt]
        refine q'.reslot ?_
        have hsl:Ab w G (b.toSt.get d) (a.tmps.getD d Go.undef):=hR.slots d
        rw [b.get_toSt d,Y6 hx]at hsl
        have hf:(AQ T.enc kd x).flat =true:=by cases kd<;>first | rfl | cases hfk
        simp_all [DV.toV,DC.toC,Ab,Ay]
       ·cases q
      intro F a w G Q hI hR
      have g3:o.wp P a w (U2 F fun s=> ∃ s',Wk s s'∧Ms P I ops rest s' PK) Q:=g2 F a w G Q hI (hu F a w G hR)
      grind [Oper.wp_mono,iA]
     ·rw [if_neg (by rw [hc];simp)]at hr
      grind [eg,bk,Ad.put_toSt,DV.toV]
    ·cases hr
end
abbrev nl:EY:=⟨[],[],[],[]⟩
abbrev p8:Sg:= .v (.k (.int .i64))
abbrev pV (n:Nat):Nat×VSp:=(n, .c p8)
end Go.PL
namespace Go.PL
open Go Go.RowKit
variable {T:AN}
def oA:DV T→Bool
 | .c (.k k _)=>IU k
 | .c (.c (.osl _))=>true
 | _=>false
theorem lF {v:DV T} (h:oA v=true) {w:World} {G:Au} {a b:Value} (ha:Ab w G v.toV a) (hb:Ab w G v.toV b):a=b:=by
 unfold oA at h
 split at h
 ·rename_i k x
  have hf:(AQ T.enc k x).flat =true:=by cases k<;>first | rfl | cases h
  grind [DV.toV,DC.toC,Ab,Ay]
 all_goals grind [DV.toV,DC.toC,Ab,Ac]
structure Jb where
 i:Nat
 d:Nat
 x:Operand
 id:Ae
 off:Nat
 ag:Bool
 n:Nat
 te:Nat
 ts:Nat
def NK (P:Program) (ops:Array Oper) (lz:List Nat) (H:Am T) (nx:Nat) (q:Jb):Prop:=
 ∃ o t cs,ops[q.i]? =some o∧o.op= .load t q.x∧o.dst=some q.d∧Fd P t=some (q.ag,q.n)∧q.te<nx∧q.ts<nx∧(H.e q.te).id =q.id∧(H.e q.te).x = .box cs∧
   Ds q.ag q.off q.n cs.length=true∧H.v q.ts=B1 q.ag q.off q.n cs∧(oA (H.v q.ts)=true∨q.i∈lz)
theorem NK.nx {P:Program} {ops:Array Oper} {lz:List Nat} {H H':Am T} {st st':Ad T} {q:Jb} (h:NK P ops lz H st.nx q) (hn:Nx H st H' st'):NK P ops lz H' st'.nx q:=by
 obtain⟨o,t,cs,h1,h2,h3,h4,h5,h6,h7,h8,h9,h10,h11⟩:=h
 have e1:=(hn.ext q.te h5).2
 have e2:=(hn.ext q.ts h6).1
 exact⟨o,t,cs,h1,h2,h3,h4,Nat.lt_of_lt_of_le h5 hn.le,Nat.lt_of_lt_of_le h6 hn.le,by grind,by grind,h9,by grind,by grind⟩
def bl (st:Ad T) (q:Jb):Bool:=match st.ev q.x,ES st.so q.id,FY st q.id with
 | .c (.c (.ptr id off)),some e,some _=>AG id q.id&&(Nat.beq off q.off&&(Nat.beq e.tag q.te&&(Nat.beq (OV st.tm q.d) (q.ts+1)&&Nat.blt q.d st.m)))
 | _,_,_=>false
theorem Nt {st:Ad T} {id:Ae} {cs:List (DC T)} (h:FY st id=some cs): ∃ e,ES st.so id=some e∧e.x= .box cs:=by
 grind [FY,Ad.look]
section
variable {H:Am T} {P:Program} {st:Ad T}
theorem SC {t:TypeId} {ag:Bool} {n:Nat} {id:Ae} {off:Nat} {cs:List (DC T)} (hw:Av H st) (ht:Fd P t=some (ag,n)) (hb:FY st id=some cs) (ho:Ds ag off n cs.length=true):
 (B1 ag off n cs).ok H st.nx∧(Cy P t st.toSt (.c (.ptr id off))).1∧(Cy P t st.toSt (.c (.ptr id off))).2=(B1 (T:=T) ag off n cs).toV :=by
 have hd:=O7 (P:=P) (t:=t) (key:=[]) (v:=(.c (.c (.ptr id off)):DV T)) hw (by grind [DV.ok,DC.ok]) (DV T) some (B1 ag off n cs) (by simp only [VO,ht,hb,ho];rfl)
 obtain⟨v,h1,h2⟩:=hd
 injection h2 with h2;subst h2
 have:=h1 rfl
 grind [DV.toV,DC.toC]
theorem N3 (hw:Av H st) {ops:Array Oper} {lz:List Nat} {q:Jb} (hq:NK P ops lz H st.nx q) (h:bl st q=true) {o:Oper} (ho:ops[q.i]? =some o) {F:Fr} {a:Act} {w:World} {G:Au} (hR:R F st.toSt a w G):
 o.dst=some q.d∧ ∃ v,(q.i∈lz∨v=a.tmps.getD q.d Go.undef)∧Ab w G (st.toSt.tm.getD q.d .undef) v∧ ∀ w',BY w w'→(execOp a.eval o).run P w'= .ok (.value v) w':=by
 obtain⟨o',t,cs,h1,h2,h3,h4,h5,h6,h7,h8,h9,h10,h11⟩:=hq
 rw [h1]at ho;injection ho with ho;subst ho
 unfold bl at h
 split at h
 ·rename_i id off e cs' hev hlk hbx
  simp only [Bool.and_eq_true,Nat.beq_eq,Az,Nat.blt_eq]at h
  obtain⟨k1,k2,k3,k4,k5⟩:=h
  subst k1 k2
  obtain⟨e',l1,l2⟩:=Nt hbx
  rw [hlk]at l1;injection l1 with l1;subst l1
  have hm:=(Cf hlk).1
  have he:=(hw.so e hm).2.1
  rw [k3]at he
  rw [he,l2]at h8
  injection h8 with h8;subst h8
  obtain⟨m1,m2,m3⟩:=SC hw h4 hbx h9
  have hev':=st.ev_toSt q.x
  rw [hev]at hev'
  have harg:st.toSt.arg true q.x=(True, .c (.ptr q.id q.off)):=by
   grind [St.arg,DV.toV,DC.toC]
  have hs:(CA P st.toSt true o'.op).1:=by
   rw [h2]
   show (rd P st.toSt true (.load t q.x)).1
   simp_all [rd,bnd]
  obtain⟨v,q1,q2⟩:=DF hR rfl hs
  have e2:(CA P st.toSt true o'.op).2=(B1 (T:=T) q.ag q.off q.n cs').toV :=by
   rw [h2]
   show (rd P st.toSt true (.load t q.x)).2=_
   grind [rd,bnd]
  rw [e2]at q1
  obtain⟨_,hv⟩:=OW hw.tm k4
  have hget:st.get q.d=B1 q.ag q.off q.n cs':=by
   unfold Ad.get
   rw [show Nat.blt q.d st.m=true by simpa using k5]
   grind
  have hsl:=hR.slots q.d
  have hg:st.toSt.tm.getD q.d .undef =(st.get q.d).toV :=st.get_toSt q.d
  grind [lF]
 ·cases h
theorem ej (hw:Av H st) {ops:Array Oper} {lz:List Nat} {q:Jb} (hq:NK P ops lz H st.nx q) (h:bl st q=true) {o:Oper} (ho:ops[q.i]? =some o) (hc:Cz o=1) {F:Fr} {a:Act} {w:World} {G:Au} (hR:R F st.toSt a w G):aO P (q.i∈lz) o a w:=by
 obtain⟨h1,v,h2,h3,h4⟩:=N3 hw hq h ho hR
 intro d hd
 rw [h1]at hd;injection hd with hd;subst hd
 exact⟨v,h2,(by grind)⟩
theorem ek {I:World→Prop} (hw:Av H st) {o:Oper} (hk:A2 o.op= .rd) {v:DV T} (hv:Rd H P st [] o.op v):kT P I o st.toSt (st.put o.dst v).toSt :=fun F a w G hI hR=>by
 obtain⟨h1,h2,h3⟩:=hv rfl
 obtain⟨u,q1,q2⟩:=DF hR rfl h2
 change Ab w G (CA P st.toSt true o.op).2 u at q1
 rw [show (CA P st.toSt true o.op).2=v.toV from h3]at q1
 exact⟨u,G,q2,by rw [Ad.put_toSt];exact hR.put q1⟩
end
def lG (P:Program) (z:Bool) (o:Oper) (i:Nat) (st:Ad T):Option (Ad T×Jb):=match o.op,o.dst with
 | .load t x,some d=>match Fd P t,st.ev x with
   | some (ag,n), .c (.c (.ptr id off))=>match FY st id,ES st.so id with
     | some cs,some e=>match Ds ag off n cs.length&&(oA (B1 ag off n cs)||z)with
       | true=>some (st.put (some d) (B1 ag off n cs),⟨i,d,x,id,off,ag,n,e.tag,st.nx⟩)
       | false=>none
     | _,_=>none
   | _,_=>none
 | _,_=>none
theorem iB {H:Am T} {P:Program} {I:World→Prop} {st st':Ad T} (hw:Av H st) {ops:Array Oper} {lz:List Nat} {z:Bool} {o:Oper} {i:Nat} {q:Jb} (hz:z=true→i∈lz) (hi:ops[i]? =some o) (h:lG P z o i st=some (st',q)):
 ∃ H',Nx H st H' st'∧st'.pre=st.pre∧kT P I o st.toSt st'.toSt∧NK P ops lz H' st'.nx q∧q.i=i:=by
 unfold lG at h
 split at h
 ·rename_i t x d hop hd
  split at h
  ·rename_i ag n id off ht hev
   split at h
   ·rename_i cs e hbx hlk
    split at h
    ·rename_i hb
     simp only [Bool.and_eq_true,Bool.or_eq_true]at hb
     injection h with h
     injection h with h1 h2
     subst h1 h2
     obtain⟨m1,m2,m3⟩:=SC hw ht hbx hb.1
     have he:=B3.setV H st.nx (B1 (T:=T) ag off n cs)
     obtain⟨e',l1,l2⟩:=Nt hbx
     rw [hlk]at l1;injection l1 with l1;subst l1
     obtain⟨k1,k2,k3⟩:=hw.so e (Cf hlk).1
     have hnx:Nx H st (H.setV st.nx (B1 ag off n cs)) (st.put (some d) (B1 ag off n cs)):=by
      obtain⟨H',hn⟩:=Ad.put_nx hw (some d) m1
      refine⟨he,by simp [Ad.put],?_,?_,?_,hw.nd⟩
      ·intro s t' w' hm
       simp only [Ad.put,List.mem_cons,Prod.mk.injEq]at hm ⊢
       rcases hm with ⟨rfl,rfl,rfl⟩ | hm
       ·exact⟨Nat.lt_succ_self _,by simp [Am.setV],DV.ok_ext he (Nat.le_succ _) m1⟩
       ·exact Bg he (Nat.le_succ _) hw.tm s t' w' hm
      ·exact fun f hf=>Bg he (Nat.le_succ _) (hw.gh f hf)
      ·exact Dh he (Nat.le_succ _) hw.so
     refine⟨_,hnx,AB _ _ _,?_,⟨o,t,cs,hi,hop,hd,ht,Nat.lt_of_lt_of_le k1 hnx.le,by simp [Ad.put],?_,?_,hb.1,by simp [Am.setV],?_⟩,rfl⟩
     ·have hrd:Rd H P st [] o.op (B1 ag off n cs):=fun _=>by
       have hev':=st.ev_toSt x
       rw [hev]at hev'
       have harg:st.toSt.arg (AF []) x=(True, .c (.ptr id off)):=by
        grind [St.arg,DV.toV,DC.toC]
       rw [hop]
       refine⟨m1,?_,?_⟩
       ·show (rd P st.toSt (AF []) (.load t x)).1
        simp_all [rd,bnd]
       ·show (rd P st.toSt (AF []) (.load t x)).2=_
        grind [rd,bnd]
      have:=ek (I:=I) hw (by rw [hop];rfl) hrd
      grind
     ·rw [(hnx.ext e.tag k1).2,k2];exact(Cf hlk).2.1
     all_goals grind [Am.setV]
    ·cases h
   ·cases h
  ·cases h
 ·cases h
end Go.PL
set_option linter.all false
namespace Go.PL
open Go Go.RowKit
def Fr.give (F:Fr) (b:Nat):Fr:=⟨F.w0,fun x=>F.av x∧x ≠ b,fun x=>F.old x∨x=b,F.I,F.gv⟩
def em (F:Fr) (old:Nat→Prop):Prop:= ∀ w':World,F.w0.heap.size≤w'.heap.size→(∀ x,x<F.w0.heap.size→ ¬old x→w'.heap[x]? =F.w0.heap[x]?)→F.I w'
section
variable {F:Fr} {st:St} {a:Act} {w:World} {G:Au}
theorem R.unnamed (h:R F st a w G) {b:Nat} (hav:F.av b) (j:Ae):G.blk j ≠ some b:=fun q=>by
 rcases h.new j b q with k | k
 ·have:=h.avlt b hav;omega
 ·exact h.avold b k hav
theorem R.setA (h:R F st a w G) {b:Nat} (hav:F.av b) (hinv:em F (fun x=>F.old x∨x=b)) (e:Ak) (nv:Option Value) (hp:e.pu=true→Aj e.cs=true)
 (he:AJ w (Bo (F.give b) G e.id (some b) nv) (e.kill e.id)):R (F.give b) (st.new e) a w (Bo (F.give b) G e.id (some b) nv):=by
 have hun:=h.unnamed hav
 have hwr:G.wr b:=(h.wr b).2 (.inl hav)
 have hbw:b<w.heap.size:=Nat.lt_of_lt_of_le (h.avlt b hav) h.hsize
 have hk:BE G (Bo (F.give b) G e.id (some b) nv) w w:=by
  refine⟨Nat.le_refl _,fun _ _ _=>rfl,fun x hx hw=>?_,fun _ _ _ _=>Bt.same rfl⟩
  simp only [Bo,Fr.give]at hw
  rcases hw with hw | ⟨i,hi⟩
  ·exact(h.wr x).2 (.inl hw.1)
  ·split at hi
   ·grind
   ·exact(h.wr x).2 (.inr ⟨i,hi⟩)
 refine {
  dfr:=h.dfr
  size:=by simp [St.new,St.kill,h.size]
  slots:=fun i=>?_
  ghosts:=?_
  store:=fun e' he'=>?_
  deep:=fun e' he'=>?_
  pures:=fun e' he'=>?_
  nodup:=?_
  inj:=fun i j x hi hj=>?_
  lt:=fun i x hi=>?_
  new:=fun i x hi=>?_
  wr:=fun _=>Iff.rfl
  avlt:=fun x hx=>h.avlt x hx.1
  inv:=hinv
  avold:=fun x hx hy=>?_
  os:=h.os,tape:=h.tape,output:=h.output,hsize:=h.hsize
  ext:=fun x hx ho=>h.ext x hx fun q=>ho (.inl q)}
 ·simp only [St.new,St.kill]
  rw [DB (by simp [CN,V.men])]
  exact Ab.mono hk _ _ (by grind [Cl,LI]) (LL (h.slots i))
 ·simp only [St.new,St.kill]
  exact An.mono hk _ _ (by grind [Cl,Jr]) (Jq h.ghosts)
 ·simp only [St.new,St.kill]at he'
  rcases Fs he' with ⟨rfl,_⟩ | he'
  ·exact he
  ·simp only [List.mem_map,List.mem_filter,Bool.and_eq_true]at he'
   obtain⟨d,⟨hd,hne,_⟩,rfl⟩:=he'
   have hne':d.id ≠ e.id:=by grind
   exact By hk (Cl (F:=F.give b) (fun i hi he'=>by subst he';rw [U7 (h.pures d hd)]at hi;cases hi)) (by grind [Bo,Ak.kill_id]) (fun _ _=>rfl) (Rv (h.store d hd))
 ·simp only [St.new,St.kill]at he'
  rcases Fs he' with ⟨rfl,h1,h2⟩ | he'
  ·exact AY.triv h1 h2
  ·simp only [List.mem_map,List.mem_filter,Bool.and_eq_true]at he'
   obtain⟨d,⟨hd,hne,hmd⟩,rfl⟩:=he'
   have hne':d.id ≠ e.id:=by grind
   have hmk:Db (d.kill e.id).id =true→ ∀ k,A9 k (d.kill e.id).id ≠ e.id:=by
    grind [Ak.kill_id,U4]
   exact AY.mono hk (by grind [Bo,Ak.kill_id]) (by grind [Bo]) (fun _ _=>rfl) (fun _ _ _ _=>rfl) (h.deep d hd).kill
 ·simp only [St.new,St.kill]at he'
  rcases Fs he' with ⟨rfl,_⟩ | he'
  ·exact IL hp
  ·simp only [List.mem_map,List.mem_filter]at he'
   obtain⟨d,⟨hd,hne⟩,rfl⟩:=he'
   exact IL (h.pures d hd)
 ·have hsub:List.Sublist (((st.new e).so.map (·.id))) (e.id::((st.so.filter (fun d=>d.id != e.id&& !(BX e.id&&Db d.id))).map (·.id))):=by
   simp only [St.new,St.kill,Kx]
   split
   all_goals simp_all [Function.comp_def,Ak.kill_id]
  refine List.Sublist.nodup hsub (List.nodup_cons.2 ⟨by grind,?_⟩)
  exact List.Sublist.nodup (by grind [List.filter_sublist]) h.nodup
 ·simp only [Bo]at hi hj
  split at hi<;>split at hj
  ·simp_all
  ·grind
  ·grind
  ·exact h.inj i j x hi hj
 ·simp only [Bo]at hi
  split at hi
  ·grind
  ·exact h.lt i x hi
 ·simp only [Bo]at hi
  split at hi
  ·injection hi with hi;exact .inr (.inr hi.symm)
  ·exact(h.new i x hi).imp (fun q=>q) .inl
 ·rcases hx with q | q
  ·exact h.avold x q hy.1
  ·exact hy.2 q
def Fr.take (F:Fr) (w1:World) (b:Nat) (G:Au):Fr:=⟨w1,fun x=>F.av x∨x=b,fun x=> ∃ i,G.blk i=some x,F.I,F.gv⟩
theorem R.taken (h:R F st a w G) {w1:World} (ho:Dc w w1) (hs:BY w w1) {b:Nat} (hb:b=w.heap.size) (hlt:b<w1.heap.size) (hinv:em (F.take w1 b G) (F.take w1 b G).old) {d:Nat} {v:Value} (hd:st.get d= .undef):
 ∃ G1,R (F.take w1 b G) st (a.put (some d) v) w1 G1:=by
 have hk:BE G (⟨G.blk,G.own,fun x=>(F.av x∨x=b)∨ ∃ i,G.blk i=some x⟩:Au) w w1:=by
  refine⟨hs.size,fun x hx _=>hs.block x hx,fun x hx hw=>?_,fun i x h1 _=>Bt.same (hs.block x (h.lt i x h1))⟩
  rcases hw with (hw | hw) | hw
  ·exact(h.wr x).2 (.inl hw)
  ·omega
  ·exact(h.wr x).2 (.inr hw)
 have ag: ∀ S:Ae→Prop,FE S G (⟨G.blk,G.own,fun x=>(F.av x∨x=b)∨ ∃ i,G.blk i=some x⟩:Au):=fun _ _ _=>⟨rfl,rfl⟩
 refine⟨⟨G.blk,G.own,fun x=>(F.av x∨x=b)∨ ∃ i,G.blk i=some x⟩,{
  dfr:=h.dfr
  size:=by simp [Act.put,h.size]
  slots:=fun i=>?_
  ghosts:=An.mono hk _ _ (ag _) h.ghosts
  store:=fun e he=>By hk (ag _) ⟨rfl,rfl⟩ (fun x hx=>hs.block x (h.lt _ x hx)) (h.store e he)
  deep:=fun e he=>AY.mono hk ⟨rfl,rfl⟩ (by grind) (fun x hx=>hs.block x (h.lt _ x hx)) (fun _ _ x hx=>hs.block x (h.lt _ x hx)) (h.deep e he)
  pures:=h.pures,nodup:=h.nodup,inj:=h.inj
  lt:=fun i x hi=>Nat.lt_of_lt_of_le (h.lt i x hi) hs.size
  new:=fun i x hi=> .inr ⟨i,hi⟩
  wr:=fun _=>Iff.rfl
  avlt:=fun x hx=>?_
  inv:=hinv
  avold:=fun x ⟨i,hi⟩ hx=>?_
  os:=rfl,tape:=rfl,output:=rfl,hsize:=Nat.le_refl _
  ext:=fun _ _ _=>rfl}⟩
 ·by_cases hi:d=i
  ·subst hi
   have:st.tm.getD d .undef = .undef :=hd
   grind [Ab]
  ·have e:(a.put (some d) v).tmps.getD i Go.undef=a.tmps.getD i Go.undef:=by simp_all [Act.put]
   rw [e]
   exact Ab.mono hk _ _ (ag _) (h.slots i)
 ·rcases hx with hx | hx
  ·exact Nat.lt_of_lt_of_le (h.avlt x hx) (Nat.le_trans h.hsize hs.size)
  ·show x<w1.heap.size;omega
 ·rcases hx with hx | hx
  ·exact h.unnamed hx i hi
  ·have:=h.lt i x hi;omega
end
structure GE (F0 F:Fr) (D:List (Nat×Nat)):Prop where
 inv0:F.I=F0.I
 gv:F.gv=F0.gv
 av: ∀ x,F.av x↔F0.av x∨ ∃ i,(i,x)∈D
 size:F0.w0.heap.size≤F.w0.heap.size
 kept: ∀ x,x<F0.w0.heap.size→ ¬F0.old x→ ¬F.old x∧F.w0.heap[x]? =F0.w0.heap[x]?
 old: ∀ x,F.old x→F0.w0.heap.size≤x∨F0.old x
 new: ∀ p∈D,F0.w0.heap.size≤p.2
 os:F.w0.os=F0.w0.os
 tape:F.w0.tape=F0.w0.tape
 output:F.w0.output=F0.w0.output
theorem GE.start (F:Fr):GE F F []:=⟨rfl,rfl,fun x=>by simp,Nat.le_refl _,(by grind),fun _ h=> .inr h,(by grind),rfl,rfl,rfl⟩
def ep (F:Fr):Prop:=em F F.old
section
variable {F0 F:Fr} {D:List (Nat×Nat)} {st:St} {a:Act} {w:World} {G:Au}
theorem GE.back (t:GE F0 F []) (hi:ep F0) (hd: ∀ x,F0.old x→ ¬F0.av x) (hl: ∀ x,F0.av x→x<F0.w0.heap.size) (h:R F st a w G):R F0 st a w G where
 dfr:=h.dfr
 size:=h.size
 slots:=h.slots
 ghosts:=by rw [←t.gv];exact h.ghosts
 store:=h.store
 deep:=h.deep
 pures:=h.pures
 nodup:=h.nodup
 inj:=h.inj
 lt:=h.lt
 new:=fun i x hx=>by
  rcases h.new i x hx with q | q
  ·exact .inl (Nat.le_trans t.size q)
  ·exact t.old x q
 wr:=fun x=>by rw [h.wr,t.av];simp
 avlt:=hl
 inv:=hi
 avold:=hd
 os:=h.os.trans t.os
 tape:=h.tape.trans t.tape
 output:=h.output.trans t.output
 hsize:=Nat.le_trans t.size h.hsize
 ext:=fun x hx ho=>by
  obtain⟨k1,k2⟩:=t.kept x hx ho
  exact(h.ext x (by grind) k1).trans k2
theorem GE.invW (t:GE F0 F D) (hi:ep F0) {old:Nat→Prop} (ho: ∀ x,x<F0.w0.heap.size→ ¬F0.old x→ ¬old x):em F old:=fun w' hs hw=>by
 rw [t.inv0]
 exact hi w' (Nat.le_trans t.size hs) fun x hx hx2=>(hw x (Nat.lt_of_lt_of_le hx t.size) (ho x hx hx2)).trans (t.kept x hx hx2).2
end
end Go.PL
set_option linter.all false
namespace Go.PL
open Go Go.RowKit
variable {T:AN}
def Uh:C→Bool
 | .int .. =>true
 | .bool _=>true
 | .str _=>true
 | .nilp =>true
 | .niface =>true
 | .nils =>true
 | .fn _=>true
 | .sl 0 []=>true
 | _=>false
theorem eu {c:C} (h:Uh c=true) {w w':World} {G G':Au} {v:Value} (hr:Ac w G c v):Ac w' G' c v:=by
 unfold Uh at h
 split at h
 all_goals simp_all [Ac]
theorem Wx {w w':World} {G G':Au}: ∀ {cs:List C} {vs:List Value},cs.all Uh=true→Ag w G cs vs→Ag w' G' cs vs
 | [],[],_,_=>by simp [Ag]
 | [],_::_,_,h=>by simp [Ag]at h
 | _::_,[],_,h=>by simp [Ag]at h
 | c::cs,v::vs,h,hr=>by
   simp only [List.all_cons,Bool.and_eq_true]at h
   simp only [Ag]at hr ⊢
   exact⟨eu h.1 hr.1,Wx h.2 hr.2⟩
theorem ew {c:C} (h:Uh c=true) (i:Ae):c.men i=false:=by
 unfold Uh at h
 split at h
 all_goals first
  | rfl
  | grind
theorem Wy: ∀ {cs:List C},cs.all Uh=true→ ∀ i,Bd i cs=false
 | [],_,_=>rfl
 | c::cs,h,i=>by
   simp only [List.all_cons,Bool.and_eq_true]at h
   simp only [Bd,ew h.1,Wy h.2,Bool.or_self]
def ey (o:Oper):Bool:=match o.guard,o.dst,o.op with
 | none,some _, .alloc _=>true
 | none,some _, .buildSlice _ _ ps=>ps.toList.all fun p=>AL p.2
 | _,_,_=>false
def Mt:DX T→List C
 | .box cs=>Al cs
 | .row E l=>l.flatMap (T.enc E)
 | .deep .. =>[]
def Ui:DX T→Nat→Value
 | .row _ l,b=> .slice (some ⟨b,0,none⟩) l.length l.length
 | _,b=> .pointer (some ⟨b,0,none⟩)
def P9:DX T→Ae→C
 | .row ..,id=> .osl id
 | _,id=> .ptr id 0
def fN (P:Program) (st:Ad T) (o:Oper):Option (DX T):=match o.op with
 | .alloc t=>match Pb P t with
   | some cs=>match (Al cs).all Uh with
     | true=>some (.box cs)
     | false=>none
   | none=>none
 | .buildSlice t len ps=>match BN P t,Eu st [] ps.toList with
   | some (E,n,_),some vs=>match JJ P E with
     | some z=>match M8 (fun i=>some (i*n,n)) ((List.replicate len z).flatMap id) (vs.map fun x=>(x.1,L7 x.2))with
       | some cs=>match GJ E len cs with
         | some l=>match (Nat.beq n (T.sz E)&&(Nat.beq z.length n&&(Nat.blt 0 n&&(Nat.ble (len*n) (2 ^ 24)&&Nat.beq cs.length (len*n)))))&&(Al cs).all Uh with
           | true=>some (.row E l)
           | false=>none
         | none=>none
       | none=>none
     | none=>none
   | _,_=>none
 | _=>none
theorem Lj {st st':Ad T}: ∀ {ps:List (Nat×Operand)},(ps.all fun p=>AL p.2)=true→Eu st [] ps=Eu st' [] ps
 | [],_=>rfl
 | (i,x)::r,h=>by
   simp only [List.all_cons,Bool.and_eq_true]at h
   have ih:=Lj (st:=st) (st':=st') h.2
   have hx:st.arg [] x=st'.arg [] x:=by
    cases x with
    | const v=>rfl
    | _=>cases h.1
   simp only [Eu,ih,hx]
theorem Mu {P:Program} {st st':Ad T} {o:Oper} (h:ey o=true):fN P st o=fN P st' o:=by
 grind [ey,fN,Lj]
structure lH (x:DX T) (arr:Array Value) (Tt:TypeId):Prop where
 ind:(Mt x).all Uh=true
 rel: ∀ w G,Ag w G (Mt x) arr.toList
 row: ∀ E l,x= .row E l→Tt=E∧arr.size=l.length*T.sz E∧l.length≤maxLen
 nd: ∀ E n l h,x ≠ .deep E n l h
 ok:x.ok
theorem iD {P:Program} {H:Am T} {st:Ad T} {o:Oper} {x:DX T} (hw:Av H st) (h:fN P st o=some x) {F:Fr} {a:Act} {w:World} {G:Au} (hR:R F st.toSt a w G):
 ∃ arr Tt,(execOp a.eval o).run P w= .ok (.value (Ui x w.heap.size)) (w.alloc (.cells arr Tt))∧lH x arr Tt:=by
 unfold fN at h
 split at h
 ·rename_i t hop
  split at h
  ·rename_i cs hz
   split at h
   ·rename_i hi
    injection h with h;subst h
    obtain⟨z1,z2⟩:=Il hz
    obtain⟨i,z,hi1,hzv,hc⟩:=Js z1
    refine⟨z.cells,t,?_,hi,fun w G=>Gt hc,(by grind),(by grind),z2⟩
    simp_all [execOp,Instr.alloc,run_zeroValue',newVar,newRow,Ui]
   ·cases h
  ·cases h
 ·rename_i t len ps hop
  split at h
  ·rename_i E n by' vs hsel hp
   split at h
   ·rename_i z hz
    split at h
    ·rename_i cs hf
     split at h
     ·rename_i l hl
      split at h
      ·rename_i hg
       injection h with h;subst h
       simp only [Bool.and_eq_true,Nat.beq_eq,Nat.blt_eq,Nat.ble_eq]at hg
       obtain⟨⟨g1,g2,g3,g4,g5⟩,g6⟩:=hg
       subst g1
       obtain⟨p1,p2,p3⟩:=DI (key:=[]) hw (fun _ hl=>by cases hl) rfl hp
       obtain⟨z1,z2⟩:=EX hz
       obtain⟨f1,_⟩:=F4 hf
       rw [JL z (by omega),Pq]at f1
       change (st.toSt.parts true ps.toList).1 at p2
       change (st.toSt.parts true ps.toList).2=VU vs at p3
       rw [←p3]at f1
       obtain⟨hlen,r,hr⟩:=CU hl
       have hrn:r=[]:=by
        have:=congrArg List.length hr
        grind [Ax,BO,AA,List.length_eq_zero_iff]
       subst hrn
       rw [List.append_nil]at hr
       obtain⟨arr',q1,q2,q3,q4,q5⟩:=FN hR hsel z1 f1 p2 (by rw [Ax];exact g2) g3 g4
       refine⟨arr',E,?_,by grind [Mt],(by grind [Mt,Wx]),fun E' l' q=>?_,(by grind),trivial⟩
       ·simp_all [execOp,Ui]
       grind
      ·cases h
     ·cases h
    ·cases h
   ·cases h
  ·cases h
 ·cases h
theorem bm {H:Am T} {st s:Ad T} {x:DX T} {arr:Array Value} {Tt:TypeId} (hw:Av H st) (hx:lH x arr Tt) {F:Fr} {a:Act} {w:World} {G:Au} (hR:R F st.toSt a w G) {b:Nat} (hav:F.av b) (hinv:em F (fun y=>F.old y∨y=b))
 (hh:w.heap[b]? =some (.cells arr Tt (0,0))) {d:Nat} (hv:a.tmps.getD d Go.undef=Ui x b) (hs:st.new (d::st.pre) x=some s): ∃ G',R (F.give b) (s.put (some d) (.c (.c (P9 x (d::st.pre))))).toSt a w G':=by
 obtain⟨_,hless,_⟩:=Ad.new_spec hw hx.ok hs
 have hrow:(⟨d::st.pre,0,x⟩:DE T).toE.cs =Mt x:=by
  unfold DE.toE
  cases x with
  | box cs=>rfl
  | row E l=>rfl
  | deep E n l h=>exact absurd rfl (hx.nd E n l h)
 have hk:((⟨d::st.pre,0,x⟩:DE T).toE.kill (d::st.pre))=(⟨d::st.pre,0,x⟩:DE T).toE :=Ak.kill_eq (by
  simp only [Ak.fre,Bool.or_eq_true,Bool.not_eq_true']
  right
  rw [hrow];exact Wy hx.ind _)
 have hr0: ∀ G',Ai w G' (Mt x) b 0:=fun G'=>Ai.of_list (hx.rel w G') (A0 hh (rest:=[]) (by grind))
 have key: ∃ nv:Option Value,(∀ G',AJ w (Bo (F.give b) G' (d::st.pre) (some b) nv) (⟨d::st.pre,0,x⟩:DE T).toE)∧(∀ G',Ac w (Bo (F.give b) G' (d::st.pre) (some b) nv) (P9 x (d::st.pre)) (Ui x b)):=by
  cases x with
  | box cs=>
    refine⟨none,fun G'=>U8 rfl ⟨b,Tt,arr,by simp [Bo,DE.toE],hh,?_,hr0 _⟩,fun G'=>?_⟩
    ·have:(Al cs).length =arr.toList.length:=(hx.rel w G).length
     show arr.size=(Al cs).length
     grind
    ·simp only [P9,Ui,Ac];exact⟨b,by simp [Bo],rfl⟩
  | row E l=>
    obtain⟨e1,e2,e3⟩:=hx.row E l rfl
    refine⟨some (.slice (some ⟨b,0,none⟩) l.length l.length),fun G'=>FK rfl ⟨?_,_,by simp [Bo,DE.toE], .inr ⟨b,l.length,arr,rfl,by simp [Bo,DE.toE],by grind,Nat.le_refl _,e3,e2,hr0 _⟩⟩,fun G'=>?_⟩
    ·show (l.flatMap (T.enc E)).length =_
     grind [BO,AA]
    ·simp only [P9,Ui,Ac];exact⟨by simp [Bo],rfl⟩
  | deep E n l h=>exact absurd rfl (hx.nd E n l h)
 obtain⟨nv,k1,k2⟩:=key
 have hid:(⟨d::st.pre,0,x⟩:DE T).toE.id =d::st.pre:=DE.toE_id _
 have hset:=hR.setA hav hinv (⟨d::st.pre,0,x⟩:DE T).toE nv (fun hp=>by
  cases x with
  | box cs=>cases hp
  | row E l=>exact Cc _ (fun y=>by have:=Cv (T:=T) (.s E) y;grind [DZ,V.pure]) _
  | deep E n l h=>exact absurd rfl (hx.nd E n l h)) (by grind)
 rw [hid]at hset
 refine⟨Bo (F.give b) G (d::st.pre) (some b) nv,?_⟩
 rw [Ad.put_toSt]
 refine(hset.less hless).reslot ?_
 grind [DV.toV,DC.toC,Ab]
end Go.PL
set_option linter.all false
namespace Go.PL
open Go Go.RowKit
variable {T:AN}
def p9 (acc:List (List Nat)) (d:List Nat) (i:Nat):List Nat:=(List.range i).filter fun j=>Ec d j||d.any fun k=>Ec (acc.getD k []) j
def nm (ops:Array Oper):Nat→Nat→List (List Nat)→List (List Nat)
 | 0,_,acc=>acc
 | n+1,i,acc=>nm ops n (i+1) (acc++[p9 acc (NI ops i) i])
def nq (ops:Array Oper):List (List Nat):=nm ops ops.size 0 []
def Lk (ops:Array Oper) (v:List Bool) (i:Nat):Bool:= !bv v i&&(NI ops i).all (bv v)
theorem Wz {ops:Array Oper} {v:List Bool} (hv:v.length=ops.size):Region.ready .any ops v.toArray=(List.range ops.size).filter (Lk ops v):=by
 unfold Region.ready
 refine List.filter_congr fun i hi=>?_
 have hi:i<ops.size:=by grind
 have ho:ops[i]? =some ops[i]:=(by grind)
 unfold Lk NI
 rw [ho]
 have e1:v.toArray.getD i true=bv v i:=by
  simp_all [bv]
 rw [e1]
 congr 1
 simp only [Option.map_some,Option.getD_some]
 rw [Bool.eq_iff_iff]
 simp only [Array.all_eq_true_iff_forall_mem,Bool.or_eq_true,Bool.not_eq_true',List.all_eq_true,List.mem_map,List.mem_filter,forall_exists_index,and_imp,forall_apply_eq_imp_iff₂]
 constructor
 ·intro h x e he hb hx
  subst hx
  have:=h e (by simpa using he)
  simp_all [bv]
 ·intro h e he
  cases hb:Region.binds .any e
  ·grind
  ·right
   have:=h e.on e (by simpa using he) hb rfl
   simp_all [bv]
def jJ (ops:Array Oper) (v:List Bool):Option Nat:=(List.range ops.size).find? fun i=>Lk ops v i&& !Nat.beq (Iu ops i) 0
def Yb (ops:Array Oper) (i:Nat):Bool:=match ops[i]? with
 | some o=>ey o
 | none=>false
def ez (ops:Array Oper) (v:List Bool):Option Nat:=match (List.range ops.size).filter fun i=>Lk ops v i&& !Yb ops i with
 | [i]=>some i
 | []=>(List.range ops.size).find? fun i=>Lk ops v i&&Yb ops i
 | _=>none
def lI (ops:Array Oper) (pr:List (List Nat)) (v:List Bool) (i:Nat):Bool:=(List.range ops.size).all fun k=>bv v k||(Nat.beq k i||(Yb ops k||(pr.getD k []).any fun j=> !bv v j&&(!Yb ops j||Nat.beq j i)))
def pW:DV T→Bool
 | .u =>true
 | _=>false
def pw (ops:Array Oper) (v:List Bool) (st:Ad T):Bool:=(List.range ops.size).all fun k=>bv v k||match ops[k]? with
 | some o=> !ey o||match o.dst with
   | some d=>pW (st.get d)&&Nat.blt d st.m
   | none=>false
 | none=>true
def Qa (ops:Array Oper):Bool:=(List.range ops.size).all fun i=>(List.range ops.size).all fun j=>Nat.beq i j||match ops[i]?,ops[j]? with
 | some o,some o'=>match o.dst,o'.dst with
   | some d,some e=> !Nat.beq d e
   | _,_=>true
 | _,_=>true
def Qb (P:Program) (ops:Array Oper) (st:Ad T):Bool:=ops.toList.all fun o=> !ey o||(fN P st o).isSome
def bn:List Oper→Ad T→Ad T
 | [],st=>st
 | o::r,st=>match ey o with
   | true=>bn r (st.put o.dst .u)
   | false=>bn r st
def eA (ops:Array Oper) (pr:List (List Nat)) (v:List Bool) (p:Nat):Bool:=(List.range ops.size).any fun k=>bv v k&&(Nat.beq (Iu ops k) 0&&Ec (pr.getD k []) p)
def Qc (ops:Array Oper) (pr:List (List Nat)) (v:List Bool) (pd:List Jb) (st:Ad T):Bool:=
 (List.range ops.size).all fun p=> !bv v p||(!Nat.beq (Iu ops p) 1||(eA ops pr v p||pd.any fun q=>Nat.beq q.i p&&bl st q))
def Nu (ops:Array Oper) (pr:List (List Nat)) (lz:List Nat) (v:List Bool) (pd:List Jb) (st:Ad T):Bool:=
 lz.all fun p=> !bv v p||(eA ops pr v p||pd.any fun q=>Nat.beq q.i p&&bl st q)
def qc:HA→Bool
 | .n =>true
 | _=>false
def eC (o:Oper):Bool:=match o.op,o.guard,o.dst with
 | .buildSlice ..,none,some _=>true
 | _,_,_=>false
def eD (o:Oper) (st:Ad T):Bool:=match o.dst with
 | some d=>Nat.blt d st.m
 | none=>false
def nr (o:Oper):Bool:=match o.op with
 | .load .. =>true
 | _=>false
def nt:HA→Option Bool
 | .q (.sub md)=>some md
 | _=>none
def ny (P:Program) (st:Ad T) (o:Oper):HA→Bool
 | .q .dlx =>true
 | .q .au =>pU P st o
 | _=>false
def px {P:Program} {I:World→Prop} (Γ:List (CE T P I)) (rec:bi T) (ops:Array Oper) (o:Oper) (st:Ad T) (h:HA) (R:Type) (K:Ad T→Option R):Option R:=match h with
 | .n =>mE Γ ops o st R K
 | .q sp=>iz Γ ops o st sp R K
 | .c h=>Ya P rec o h st R K
 | .j sh h=>jn (fun v:RT T sh.ts=>match sh.inst st (BA sh.ts v)with
  | some s=>K s
  | none=>none) (fun j=>Ya P rec o h st R fun b=>match sh.gen st b with
  | some v=>j v
  | none=>none)
 | .u .. =>none
def Hi {P:Program} {I:World→Prop} (Γ:List (CE T P I)) (rec:bi T) (ops:Array Oper) (pr:List (List Nat)) (lz:List Nat) (il:Hl):Nat→List Bool→List Jb→Ad T→(R:Type)→(Ad T→Option R)→Option R
 | 0,v,pd,st,R,K=>match Nu ops pr lz v pd st with
   | false=>none
   | true=>match (List.range ops.size).all (bv v)with
     | true=>Mr il ops.size st R K
     | false=>none
 | n+1,v,pd,st,R,K=>match Nu ops pr lz v pd st with
   | false=>none
   | true=>match jJ ops v with
     | some i=>match ops[i]? with
       | some o=>match Nat.beq (Cz o) 2,eD o st with
         | true,true=>G6 P [] st o.op R fun u=>Hi Γ rec ops pr lz il n (v.set i true) pd (st.put o.dst u) R K
         | false,true=>match nt (Hh il i),ny P st o (Hh il i),nr o with
           | some md,_,_=>ia P o md st R fun st'=>Hi Γ rec ops pr lz il n (v.set i true) pd st' R K
           | none,true,_=>dlx P o st R fun st'=>Hi Γ rec ops pr lz il n (v.set i true) pd st' R K
           | none,false,false=>none
           | none,false,true=>match lG P (Ec lz i) o i st with
             | some (st',q)=>Hi Γ rec ops pr lz il n (v.set i true) (q::pd) st' R K
             | none=>G6 P [] st o.op R fun u=>Hi Γ rec ops pr lz il n (v.set i true) pd (st.put o.dst u) R K
         | _,_=>none
       | none=>none
     | none=>match ez ops v with
       | some i=>match ops[i]?,lI ops pr v i&&pw ops v st with
         | some o,true=>match Cz o,ey o with
           | 0,true=>match o.dst,fN P st o with
             | some d,some x=>match st.new (d::st.pre) x with
               | some s=>Hi Γ rec ops pr lz il n (v.set i true) pd (s.put (some d) (.c (.c (P9 x (d::st.pre))))) R K
               | none=>none
             | _,_=>none
           | 0,false=>match eC o&&qc (Hh il i)with
             | true=>aI P st o R fun st'=>Hi Γ rec ops pr lz il n (v.set i true) pd st' R K
             | false=>px Γ rec ops o st (Hh il i) R fun st'=>match Qc ops pr (v.set i true) pd st' with
               | true=>Hi Γ rec ops pr lz il n (v.set i true) pd st' R K
               | false=>none
           | _,_=>none
         | _,_=>none
       | none=>none
theorem eE {α:Type} {p:α→Bool} {l:List α} {x:α} (h:l.find? p=some x):x∈l∧p x=true:=(by grind)
theorem D6 (v:List Bool) (k:Nat):v.toArray.getD k false=bv v k:=by simp_all [bv]
theorem Ci {v:List Bool} {i k:Nat} (hi:i<v.length):bv (v.set i true) k=(k==i||bv v k):=by
 simp only [bv,List.getD_eq_getElem?_getD,List.getElem?_set]
 grind
theorem IF {o:Oper} (h:ey o=true):o.guard=none∧(∃ d,o.dst=some d)∧Cz o=0:=by
 grind [ey,Cz,Is]
theorem GE.take {F0 F:Fr} {D:List (Nat×Nat)} {st:St} {a:Act} {w w1:World} {G:Au} (t:GE F0 F D) (h:R F st a w G) (ho:Dc w w1) (hs:BY w w1) (i:Nat):GE F0 (F.take w1 w.heap.size G) ((i,w.heap.size)::D):=by
 have h1:=Nat.le_trans t.size h.hsize
 refine⟨t.inv0,t.gv,fun x=>?_,Nat.le_trans h1 hs.size,fun x hx hx2=>?_,fun x ⟨j,hj⟩=>?_,fun p hp=>?_,ho.os.trans (h.os.trans t.os),ho.tape.trans (h.tape.trans t.tape),ho.output.trans (h.output.trans t.output)⟩
 ·show F.av x∨x=w.heap.size↔_
  rw [t.av]
  grind
 ·obtain⟨k1,k2⟩:=t.kept x hx hx2
  refine⟨fun⟨j,hj⟩=>?_,?_⟩
  ·rcases h.new j x hj with q | q
   all_goals grind
  ·show w1.heap[x]? =_
   rw [hs.block x (by omega),h.ext x (by grind) k1,k2]
 ·rcases h.new j x hj with q | q
  ·exact .inl (Nat.le_trans t.size q)
  ·exact t.old x q
 ·rcases List.mem_cons.1 hp with rfl | hp
  ·exact h1
  ·exact t.new p hp
theorem Uj {α β:Type} {f:α→β}: ∀ {l:List α} {x y:α},(l.map f).Nodup →x∈l→y∈l→f x=f y→x=y
 | a::l,x,y,h,hx,hy,e=>by
   rw [List.map_cons]at h
   obtain⟨h1,h2⟩:=List.nodup_cons.1 h
   rcases List.mem_cons.1 hx with q1 | q1<;>rcases List.mem_cons.1 hy with q2 | q2
   ·rw [q1,q2]
   ·subst q1;exact absurd (List.mem_map.2 ⟨y,q2,e.symm⟩) h1
   ·subst q2;exact absurd (List.mem_map.2 ⟨x,q1,e⟩) h1
   ·exact Uj h2 q1 q2 e
theorem GE.give {F0 F:Fr} {D:List (Nat×Nat)} {i b:Nat} (t:GE F0 F D) (hi:(i,b)∈D) (n1:(D.map (·.1)).Nodup) (n2:(D.map (·.2)).Nodup) (hl: ∀ x,F0.av x→x<F0.w0.heap.size):GE F0 (F.give b) (D.filter fun p=>p.1 != i):=by
 have hb:=t.new _ hi
 simp only at hb
 refine⟨t.inv0,t.gv,fun x=>?_,t.size,fun x hx hx2=>?_,fun x hx=>?_,fun p hp=>t.new p (by grind),t.os,t.tape,t.output⟩
 ·show F.av x∧x ≠ b↔_
  rw [t.av]
  constructor
  ·rintro⟨q | ⟨j,q⟩,hne⟩
   ·exact .inl q
   ·refine .inr ⟨j,List.mem_filter.2 ⟨q,?_⟩⟩
    have:j ≠ i:=fun e=>by
     subst e
     have:=Uj n1 q hi rfl
     grind
    grind
  ·rintro(q | ⟨j,q⟩)
   ·grind
   ·obtain⟨q1,q2⟩:=List.mem_filter.1 q
    refine⟨.inr ⟨j,q1⟩,fun e=>?_⟩
    subst e
    have:=Uj n2 q1 hi rfl
    grind
 ·obtain⟨k1,k2⟩:=t.kept x hx hx2
  refine⟨fun q=>?_,k2⟩
  rcases q with q | q
  all_goals grind
 ·rcases hx with q | q
  ·exact t.old x q
  grind
def eF (P:Program) (ops:Array Oper) (st:Ad T) (F:Fr) (a:Act) (p:Nat×Nat):Prop:=
 ∃ o d x arr Tt,ops[p.1]? =some o∧ey o=true∧o.dst=some d∧fN P st o=some x∧lH x arr Tt∧F.w0.heap[p.2]? =some (.cells arr Tt (0,0))∧ ¬F.old p.2∧a.tmps.getD d Go.undef=Ui x p.2
theorem eF.move {P:Program} {ops:Array Oper} {st st':Ad T} {F:Fr} {a a':Act} {p:Nat×Nat} (h:eF P ops st F a p) (ha: ∀ d o,ops[p.1]? =some o→o.dst=some d→a'.tmps.getD d Go.undef=a.tmps.getD d Go.undef):eF P ops st' F a' p:=by
 obtain⟨o,d,x,arr,Tt,h1,h2,h3,h4,h5,h6,h7,h8⟩:=h
 exact⟨o,d,x,arr,Tt,h1,h2,h3,by rw [Mu h2 (st':=st)];exact h4,h5,h6,h7,by rw [ha d o h1 h3];exact h8⟩
theorem nB {P:Program} {ops:Array Oper} {st:Ad T} {F:Fr} {a:Act} {p:Nat×Nat} (h:eF P ops st F a p) {o:Oper} (ho:ops[p.1]? =some o):Cz o=0:=by
 obtain⟨o',_,_,_,_,h1,h2,_⟩:=h
 simp_all [IF]
theorem EB {ops:Array Oper} (h:Qa ops=true) {i j:Nat} {o o':Oper} {d e:Nat} (hi:ops[i]? =some o) (hj:ops[j]? =some o') (hne:i ≠ j) (hd:o.dst=some d) (he:o'.dst=some e):d ≠ e:=by
 simp only [Qa,List.all_eq_true,List.mem_range]at h
 have:=h i (Array.getElem?_eq_some_iff.1 hi).1 j (Array.getElem?_eq_some_iff.1 hj).1
 simp only [hi,hj,hd,he,Bool.or_eq_true,Nat.beq_eq,Bool.not_eq_true']at this
 rcases this with q | q
 ·grind
 ·intro e';simp_all
def iE (n:Nat) (v:List Bool):List Nat:=(List.range n).filter fun k=> !bv v k
theorem eG: ∀ {l l':List Nat},l.Nodup→(∀ x∈l,x∈l')→l.length≤l'.length
 | [],_,_,_=>Nat.zero_le _
 | a::l,l',h,hs=>by
   obtain⟨h1,h2⟩:=List.nodup_cons.1 h
   have ha:=hs a (by simp)
   have:=eG (l:=l) (l':=l'.erase a) h2 (by grind)
   grind
theorem lJ (n:Nat) (v:List Bool):(iE n v).Nodup :=List.Sublist.nodup List.filter_sublist List.nodup_range
theorem N4 {n:Nat} {v:List Bool} {i:Nat} (hv:v.length=n) (hi:i<n) (hu:bv v i=false):(iE n (v.set i true)).length +1≤(iE n v).length :=by
 have:=eG (l:=i::iE n (v.set i true)) (l':=iE n v) (List.nodup_cons.2 ⟨fun h=>?_,lJ _ _⟩) fun x hx=>?_
 ·grind
 ·have:=(List.mem_filter.1 h).2
  grind [Ci]
 ·rcases List.mem_cons.1 hx with rfl | hx
  ·exact List.mem_filter.2 ⟨by simpa using hi,by rw [hu];rfl⟩
  ·obtain⟨h1,h2⟩:=List.mem_filter.1 hx
   rw [Ci (by omega)]at h2
   exact List.mem_filter.2 ⟨h1,by simp only [Bool.not_eq_true',Bool.or_eq_false_iff]at h2 ⊢;exact h2.2⟩
section
variable {H:Am T} {P:Program} {I:World→Prop} {Γ:List (CE T P I)} {rec:bi T} {st:Ad T} {ops:Array Oper} {pr:List (List Nat)} {lz:List Nat} {F0:Fr}
theorem lK (hrec:Ww P I rec) (hw:Av H st) {o:Oper} {h:HA} {R':Type} {K:Ad T→Option R'} {r:R'} (hr:px Γ rec ops o st h R' K=some r) {PK:St→Prop}
 (hK: ∀ H' st',Nx H st H' st'→K st'=some r→PK st'.toSt):RC P I ops o st.toSt (fun s=> ∃ s',Wk s s'∧PK s'):=by
 have refl: ∀ s:St,Wk s s:=fun s=>Wk.less (Bk.refl s)
 unfold px at hr
 split at hr
 ·obtain⟨st',⟨⟨H1,n1⟩,_,w1⟩,hr⟩:=TW hw o R' _ r hr
  grind
 ·obtain⟨st',⟨⟨H1,n1⟩,_,w1⟩,hr⟩:=Zq hw o _ R' _ r hr
  grind
 ·obtain⟨g1,g2⟩:=Li (PK:=fun s=> ∃ s',Wk s s'∧PK s') hrec hw hr fun H' s n _ q=>⟨_,refl _,hK H' s n q⟩
  simp only [RC,g1]
  exact .inl g2
 ·rename_i sh h
  unfold jn at hr
  obtain⟨g1,g2⟩:=Li (PK:=fun s=> ∃ s',Wk s s'∧PK s') hrec hw hr fun H' s n _ q=>by
   split at q
   ·rename_i v hg
    dsimp only at q
    split at q
    ·rename_i s' hi
     obtain⟨H2,n2⟩:=EY.inst_nx hw (C2 sh.ts v) hi
     grind [EY.gen_ok]
    ·cases q
   ·cases q
  simp only [RC,g1]
  exact .inl g2
 ·cases hr
theorem nC {o:Oper} (hb:eC o=true) {s:St} (h1:(ef P st.toSt o).1) (h2:Bk (ef P st.toSt o).2 s) {F:Fr} {a:Act} {w:World} {G:Au} (hR:R F st.toSt a w G) {Q:Exit→Act→World→Prop}:
 o.wp P a w (fun a' w'=>BY w w'∧ ∃ G',R F s a' w' G') Q:=by
 unfold eC at hb
 split at hb
 ·rename_i t len ps d hop hg hd
  obtain⟨dst,op,ty,pos,aft,gd⟩:=o
  simp only at hop hg hd
  subst hop hg hd
  have h1':(AI P st.toSt d t len ps.toList).1:=h1
  have h2':Bk (AI P st.toSt d t len ps.toList).2 s:=h2
  obtain⟨r,w',G',q1,q2⟩:=Gv hR h1'
  have:=L9 hR h1' q1
  unfold Oper.wp
  have hrun:(execOp a.eval ⟨some d, .buildSlice t len ps,ty,pos,aft,none⟩).run P w= .ok (.value r) w':=by
   simp [execOp,q1]
  rw [hrun]
  exact⟨this,G',q2.less h2'⟩
 ·cases hb
structure Fy (P:Program) (ops:Array Oper) (pr:List (List Nat)) (F0:Fr) (v:List Bool) (st:Ad T) (m:Nat) (L:List Bool) (D:List (Nat×Nat)) (F:Fr) (a:Act) (w:World) (G:Au):Prop where
 hv:v.length=ops.size
 hL:L.length=ops.size
 hb: ∀ k,bv L k=(bv v k||D.any fun p=>p.1==k)
 hdc:dE pr L.toArray
 n1:(D.map (·.1)).Nodup
 n2:(D.map (·.2)).Nodup
 hD: ∀ p∈D,p.1<ops.size∧bv v p.1=false∧eF P ops st F a p
 ht:GE F0 F D
 hc:(iE ops.size v).length ≤m+D.length
 hR:R F st.toSt a w G
structure Fx (P:Program) (ops:Array Oper) (pr:List (List Nat)) (lz:List Nat) (F0:Fr) (v:List Bool) (st:Ad T) (m:Nat) (L:List Bool) (D:List (Nat×Nat)) (F:Fr) (a:Act) (w:World) (G:Au):Prop extends Fy P ops pr F0 v st m L D F a w G where
 hS:QF P ops pr lz L.toArray a w
variable {v L:List Bool} {m:Nat} {D:List (Nat×Nat)} {F:Fr} {a:Act} {w:World} {G:Au}
theorem I2 {D:List (Nat×Nat)} {k:Nat}:(D.any fun p=>p.1==k)=true↔ ∃ b,(k,b)∈D:=by
 grind
theorem Fx.pos (h:Fx P ops pr lz F0 v st m L D F a w G) {i:Nat} (hi:i<ops.size) (hu:bv v i=false) (hn: ∀ b,(i,b)∉D):1≤m:=by
 have:=eG (l:=i::D.map (·.1)) (l':=iE ops.size v) (List.nodup_cons.2 ⟨fun q=>?_,h.n1⟩) fun x hx=>?_
 ·have h2:=h.hc
  grind
 ·grind
 ·rcases List.mem_cons.1 hx with rfl | hx
  ·exact List.mem_filter.2 ⟨by simpa using hi,by rw [hu];rfl⟩
  ·obtain⟨p,hp,rfl⟩:=List.mem_map.1 hx
   obtain⟨h1,h2,_⟩:=h.hD p hp
   exact List.mem_filter.2 ⟨by simpa using h1,by rw [h2];rfl⟩
theorem Fx.rdy (h:Fx P ops pr lz F0 v st m L D F a w G) {i:Nat} (hi:i<ops.size) (hr:Lk ops v i=true) (hn: ∀ b,(i,b)∉D):i∈Region.ready .any ops L.toArray:=by
 rw [Wz h.hL]
 simp only [Lk,Bool.and_eq_true,Bool.not_eq_true',List.all_eq_true]at hr
 refine List.mem_filter.2 ⟨by grind,?_⟩
 simp only [Lk,Bool.and_eq_true,Bool.not_eq_true',List.all_eq_true]
 refine⟨?_,fun x hx=>by rw [h.hb,hr.2 x hx];rfl⟩
 rw [h.hb,hr.1,Bool.false_or]
 grind
theorem Fx.rdyL (hp:KW ops pr=true) (h:Fx P ops pr lz F0 v st m L D F a w G) {j:Nat} (hj:j∈Region.ready .any ops L.toArray):j<ops.size∧bv L j=false∧bv v j=false∧(∀ b,(j,b)∉D)∧ ∀ x∈pr.getD j [],bv L x=true:=by
 obtain⟨h1,h2,h3⟩:=DJ hp h.hdc hj
 have h4:bv L j=false:=by grind [D6]
 have h5:=h4
 rw [h.hb,Bool.or_eq_false_iff]at h5
 refine⟨h1,h4,h5.1,fun b hb=>?_,fun x hx=>by rw [←D6];exact h3 x hx⟩
 have:=I2.2 ⟨b,hb⟩
 rw [h5.2]at this;cases this
theorem R.reput {st:St} (h:R F st a w G) {d:Nat} {u:Value} (hu:Ab w G (st.tm.getD d .undef) u):R F st (a.put (some d) u) w G:=by
 have:=h.put (d:=some d) hu
 have e:st.put (some d) (st.tm.getD d .undef)=st:=by
  simp only [St.put]
  congr 1
  apply List.ext_getElem?
  grind
 grind
theorem Fy.up1 (hst:L8 ops pr=true) (hdn:Qa ops=true) (hlz:Ja ops lz=true) (hw:Av H st) {pd:List Jb} (hpd: ∀ q∈pd,NK P ops lz H st.nx q) (hck:Nu ops pr lz v pd st=true) (h:Fy P ops pr F0 v st m L D F a w G) {a':Act} (hu:ol P ops pr lz L.toArray w a a'):Fy P ops pr F0 v st m L D F a' w G:=by
 obtain⟨p,o,d,u,h1,h2,h3,h4,h5,h6,rfl⟩:=hu
 obtain⟨k1,k2⟩:=FA hlz h1 h2
 have hcN:Iu ops p=1:=by grind [Iu]
 have nmk: ∀ q,(p,q)∉D:=fun q hq=>by
  obtain⟨_,_,o',_,_,_,_,r1,r2,_⟩:=h.hD _ hq
  simp_all [IF]
 have hvp:bv v p=true:=by
  rw [D6,h.hb,Bool.or_eq_true]at h4
  grind
 simp only [Nu,List.all_eq_true,Bool.or_eq_true,Bool.not_eq_true']at hck
 rcases hck p h1 with q | q | q
 ·grind
 ·exfalso
  refine h5 ?_
  simp only [eA,List.any_eq_true,List.mem_range,Bool.and_eq_true,Nat.beq_eq,BQ]at q
  obtain⟨k,_,k1,k2,k3⟩:=q
  exact⟨k,by rw [D6,h.hb,k1];rfl,k2,k3⟩
 ·simp only [List.any_eq_true,Bool.and_eq_true,Nat.beq_eq]at q
  obtain⟨q0,hq0,e0,hok⟩:=q
  subst e0
  obtain⟨r1,x,_,r2,r3⟩:=N3 hw (hpd q0 hq0) hok h2 h.hR
  rw [h3]at r1;injection r1 with r1;subst r1
  rw [r3 w (BY.refl w)]at h6
  have hxu:x=u:=by grind
  subst hxu
  exact {h with
   hD:=fun p' hp'=>by
    obtain⟨s1,s2,s3⟩:=h.hD p' hp'
    have hne:p'.1 ≠ q0.i:=(by grind)
    refine⟨s1,s2,s3.move fun d' o' ho' hd'=>?_⟩
    exact Cb (by grind)
   hR:=h.hR.reput r2}
theorem Fx.ups (hst:L8 ops pr=true) (hdn:Qa ops=true) (hlz:Ja ops lz=true) (hw:Av H st) {pd:List Jb} (hpd: ∀ q∈pd,NK P ops lz H st.nx q) (hck:Nu ops pr lz v pd st=true) (h:Fx P ops pr lz F0 v st m L D F a w G) {a':Act} (hu:Ups P ops pr lz L.toArray w a a'):Fx P ops pr lz F0 v st m L D F a' w G:=by
 induction hu with
 | refl=>exact h
 | step _ h1 ih=>exact {toFy:=ih.toFy.up1 hst hdn hlz hw hpd hck h1,hS:=ih.hS.up1 hst hlz h1}
theorem Qd {il:Hl} {pd:List Jb} {R':Type} {K:Ad T→Option R'} {r:R'}: ∀ {n:Nat},Hi Γ rec ops pr lz il n v pd st R' K=some r→Nu ops pr lz v pd st=true
 | 0,h=>by
   grind [Hi]
 | n+1,h=>by
   grind [Hi]
theorem Bm (L:List Bool) (i:Nat):L.toArray.setIfInBounds i true=(L.set i true).toArray :=by simp
theorem Fx.make (hst:L8 ops pr=true) (hdn:Qa ops=true) (hlz:Ja ops lz=true) {pd:List Jb} (hpd: ∀ q∈pd,NK P ops lz H st.nx q) (hck:Nu ops pr lz v pd st=true) (hi0:ep F0) (hw:Av H st) (hma:Qb P ops st=true) (hun:pw ops v st=true) (h:Fx P ops pr lz F0 v st (m+1) L D F a w G) {j:Nat} (hj:j∈Region.ready .any ops L.toArray) (hm:Yb ops j=true) {Q:Exit→Act→World→Prop}
 (hK: ∀ L D F a w' G,Fx P ops pr lz F0 v st m L D F a w' G→(j,w.heap.size)∈D→CF P ops Q pr lz m L.toArray a w'):
 wpOp P ops Q j (fun a' w'=> ∀ a'',Ups P ops pr lz (L.toArray.setIfInBounds j true) w' a' a''→QF P ops pr lz (L.toArray.setIfInBounds j true) a'' w'∧CF P ops Q pr lz m (L.toArray.setIfInBounds j true) a'' w') a w:=by
 obtain⟨hns,hp,hstat⟩:=Ew hst
 obtain⟨hjl,hju,hjv,hjD,_⟩:=h.rdyL hp hj
 unfold Yb at hm
 have hoj:ops[j]? =some ops[j]:=(by grind)
 generalize ops[j]=o at hoj
 rw [hoj]at hm
 simp only at hm
 obtain⟨hg,⟨d,hd⟩,hc⟩:=IF hm
 obtain⟨x,hx⟩: ∃ x,fN P st o=some x:=by
  simp only [Qb,List.all_eq_true,Bool.or_eq_true,Bool.not_eq_true']at hma
  grind [Option.isSome_iff_exists]
 have hud:st.get d= .u ∧d<st.m:=by
  simp only [pw,List.all_eq_true,List.mem_range,Bool.or_eq_true]at hun
  have:=hun j hjl
  rw [hjv,hoj]at this
  simp only [hm,hd,Bool.not_true,Bool.false_or,Bool.and_eq_true,Nat.blt_eq]at this
  grind [pW]
 obtain⟨arr,Tt,hrun,hxo⟩:=iD hw hx h.hR
 have hsz:a.tmps.size=st.m:=by rw [h.hR.size];exact AS _ _
 refine XT hst hlz hoj hc h.hdc hj h.hS (K:=fun a' w'=>BY w w'∧ ∃ D' F' G',Fy P ops pr F0 v st m (L.set j true) D' F' a' w' G'∧(j,w.heap.size)∈D') ?_ ?_ ?_ ?_
 ·rw [CO hg,if_pos rfl]
  refine Ap hrun ?_
  rw [hd]
  refine⟨Ek _ _,?_⟩
  have hsm:=Ek w (.cells arr Tt)
  have t':=h.ht.take h.hR (EM w (.cells arr Tt)) hsm j
  obtain⟨G1,hR1⟩:=h.hR.taken (EM w (.cells arr Tt)) hsm (b:=w.heap.size) rfl (by simp [Ej]) (t'.invW hi0 fun x hx hx2=>(t'.kept x hx hx2).1) (d:=d) (v:=Ui x w.heap.size) (by rw [st.get_toSt,hud.1];simp only [DV.toV])
  refine⟨(j,w.heap.size)::D,_,G1,⟨h.hv,by simpa using h.hL,fun k=>?_,by rw [←Bm];exact h.hdc.set hp hj,?_,?_,fun p hp'=>?_,t',?_,hR1⟩,List.mem_cons_self⟩
  ·rw [Ci (by rw [h.hL];exact hjl),h.hb,List.any_cons]
   grind
  ·rw [List.map_cons]
   refine List.nodup_cons.2 ⟨fun q=>?_,h.n1⟩
   grind
  ·rw [List.map_cons]
   refine List.nodup_cons.2 ⟨fun q=>?_,h.n2⟩
   obtain⟨p,hp',e⟩:=List.mem_map.1 q
   have e:p.2=w.heap.size:=e
   have hav:F.av p.2:=(h.ht.av _).2 (.inr ⟨p.1,hp'⟩)
   have:=h.hR.avlt _ hav
   have:=h.hR.hsize
   omega
  ·rcases List.mem_cons.1 hp' with rfl | hp'
   ·refine⟨hjl,hjv,o,d,x,arr,Tt,hoj,hm,hd,hx,hxo,heap_alloc_new w _,fun⟨i,hi⟩=>?_,?_⟩
    ·have:=h.hR.lt i _ hi;omega
    simp_all [Act.put]
   ·obtain⟨q1,q2,o',d',x',arr',Tt',r1,r2,r3,r4,r5,r6,r7,r8⟩:=h.hD p hp'
    have hav:F.av p.2:=(h.ht.av _).2 (.inr ⟨p.1,hp'⟩)
    refine⟨q1,q2,o',d',x',arr',Tt',r1,r2,r3,r4,r5,?_,fun⟨i,hi⟩=>h.hR.unnamed hav i hi,?_⟩
    ·show (w.alloc (.cells arr Tt)).heap[p.2]? =_
     have hlt:=h.hR.avlt _ hav
     rw [hsm.block p.2 (Nat.lt_of_lt_of_le hlt h.hR.hsize),h.hR.ext p.2 hlt r7]
     exact r6
    ·have hne:p.1 ≠ j:=(by grind)
     rw [←r8]
     exact Cb (x:=some d) (fun e he=>by injection he with he;subst he;exact EB hdn hoj r1 (Ne.symm hne) hd r3)
  ·have:=h.hc
   grind
 ·intro a' w' ⟨hsm,_⟩ p op hop hcp hpl hpf he1 he2 hW d hd
  obtain⟨u,m1,m2⟩:=hW d hd
  refine⟨u,by grind,fun w1 hw1=>?_⟩
  have h1:=hw1.resolve_left (by rw [hcp];omega)
  rw [he1 w1 (hsm.trans h1)]
  exact m2 w1 (.inr (hsm.trans h1))
 ·intro a' w' a'' ⟨hsm,D',F',G',hf,hj'⟩ hu
  rw [Bm]at hu
  exact⟨hsm,D',F',G',hf.up1 hst hdn hlz hw hpd hck hu,hj'⟩
 ·intro a' w' ⟨hsm,D',F',G',hf,hj'⟩ _ hS'
  rw [Bm]at hS' ⊢
  exact hK _ D' F' a' w' G' {toFy:=hf,hS:=hS'} hj'
theorem Fx.adopt (hi0:ep F0) (hl0: ∀ x,F0.av x→x<F0.w0.heap.size) (hw:Av H st) (h:Fx P ops pr lz F0 v st m L D F a w G) {i b d:Nat} {o:Oper} {x:DX T} {s:Ad T} (hi:(i,b)∈D) (ho:ops[i]? =some o) (hd:o.dst=some d) (hx:fN P st o=some x) (hs:st.new (d::st.pre) x=some s):
 ∃ G',Fx P ops pr lz F0 (v.set i true) (s.put (some d) (.c (.c (P9 x (d::st.pre))))) m L (D.filter fun p=>p.1 != i) (F.give b) a w G':=by
 obtain⟨hil,hiv,o',d',x',arr,Tt,r1,r2,r3,r4,r5,r6,r7,r8⟩:=h.hD _ hi
 simp only at hil hiv r1 r6 r7 r8
 rw [ho]at r1;injection r1 with r1;subst r1
 rw [hd]at r3;injection r3 with r3;subst r3
 rw [hx]at r4;injection r4 with r4;subst r4
 have t':=h.ht.give hi h.n1 h.n2 hl0
 have hav:F.av b:=(h.ht.av _).2 (.inr ⟨i,hi⟩)
 have hh:w.heap[b]? =some (.cells arr Tt (0,0)):=by rw [h.hR.ext b (h.hR.avlt b hav) r7];exact r6
 obtain⟨G',hR'⟩:=bm hw r5 h.hR hav (t'.invW hi0 fun x hx hx2=>(t'.kept x hx hx2).1) hh r8 hs
 refine⟨G',⟨by simpa using h.hv,h.hL,fun k=>?_,h.hdc,List.Sublist.nodup (by grind [List.filter_sublist]) h.n1,List.Sublist.nodup (by grind [List.filter_sublist]) h.n2,fun p hp=>?_,t',?_,hR'⟩,h.hS⟩
 ·rw [h.hb,Ci (by rw [h.hv];exact hil)]
  by_cases hk:k=i
  ·grind
  ·have e1:(k==i)=false:=by grind
   rw [e1,Bool.false_or]
   congr 1
   rw [Bool.eq_iff_iff,I2,I2]
   grind
 ·obtain⟨hp1,hp2⟩:=List.mem_filter.1 hp
  have hne:p.1 ≠ i:=by grind
  obtain⟨q1,q2,o',d',x',arr',Tt',s1,s2,s3,s4,s5,s6,s7,s8⟩:=h.hD p hp1
  refine⟨q1,by rw [Ci (by rw [h.hv];exact hil),q2];grind,o',d',x',arr',Tt',s1,s2,s3,by grind [Mu],s5,s6,fun q=>?_,s8⟩
  rcases q with q | q
  ·exact s7 q
  ·have:p=(i,b):=Uj h.n2 hp1 hi q
   grind
 ·have h1:=N4 h.hv hil hiv
  have h2:=h.hc
  have h3:(D.filter fun p=>p.1 != i).length +1=D.length:=by
   have key: ∀ l:List (Nat×Nat),(l.map (·.1)).Nodup →(i,b)∈l→(l.filter fun p=>p.1 != i).length +1=l.length:=by
    intro l
    induction l with
    | nil=>grind
    | cons p l ih=>
      intro hn hm
      rw [List.map_cons]at hn
      obtain⟨n1,n2⟩:=List.nodup_cons.1 hn
      rcases List.mem_cons.1 hm with e | hm
      ·grind [List.filter_eq_self]
      grind
   exact key D h.n1 hi
  omega
theorem Yc {v:List Bool} {i:Nat} (h:ez ops v=some i):i<ops.size∧Lk ops v i=true:=by
 unfold ez at h
 split at h
 ·rename_i j hj
  injection h with h;subst h
  have:j∈(List.range ops.size).filter fun i=>Lk ops v i&& !Yb ops i:=by grind
  grind
 all_goals grind
theorem Yd {v:List Bool} {i:Nat} (h:jJ ops v=some i):i<ops.size∧Lk ops v i=true∧Iu ops i ≠ 0:=by
 obtain⟨h1,h2⟩:=eE h
 simp only [Bool.and_eq_true,Bool.not_eq_true']at h2
 exact⟨by grind,h2.1,fun e=>by simp_all⟩
theorem Zs {v:List Bool} {i:Nat} (h:Lk ops v i=true):bv v i=false:=by
 simp_all [Lk]
theorem Zt {i:Nat} (h:Yb ops i=true):Iu ops i=0:=by
 unfold Yb at h
 split at h
 all_goals simp_all [Iu,IF]
theorem E4 {P:Program} {st st':Ad T} (h:Qb P ops st=true):Qb P ops st'=true:=by
 simp only [Qb,List.all_eq_true,Bool.or_eq_true,Bool.not_eq_true']at h ⊢
 intro o ho
 rcases h o ho with q | q
 ·exact .inl q
 ·cases hm:ey o with
  | false=>grind
  | true=>grind [Mu]
theorem Fx.other (hp:KW ops pr=true) (h:Fx P ops pr lz F0 v st m L D F a w G) {i:Nat} (hok:lI ops pr v i=true) (hiD: ∀ b,(i,b)∉D) {j:Nat} (hj:j∈Region.ready .any ops L.toArray) (hne:j ≠ i):Yb ops j=true:=by
 obtain⟨h1,h2,h3,h4,h5⟩:=h.rdyL hp hj
 simp only [lI,List.all_eq_true,List.mem_range,Bool.or_eq_true,Nat.beq_eq,List.any_eq_true,Bool.and_eq_true,Bool.not_eq_true']at hok
 rcases hok j h1 with q | q | q | ⟨x,hx,q1,q2⟩
 ·grind
 ·grind
 ·exact q
 ·exfalso
  have:=h5 x hx
  rw [h.hb,q1,Bool.false_or]at this
  obtain⟨b,hb⟩:=I2.1 this
  rcases q2 with q2 | q2
  ·obtain⟨_,_,o,d,y,arr,Tt,r1,r2,_⟩:=h.hD _ hb
   grind [Yb]
  grind
theorem Ll (hst:L8 ops pr=true) (hdn:Qa ops=true) (hlz:Ja ops lz=true) (hrec:Ww P I rec) (il:Hl) (hI0:F0.I=I) (hi0:ep F0) (hd0: ∀ x,F0.old x→ ¬F0.av x) (hl0: ∀ x,F0.av x→x<F0.w0.heap.size) {R':Type} {K:Ad T→Option R'} {r:R'} {PK:St→Prop}:
 ∀ (n:Nat) (v:List Bool) (pd:List Jb) (st:Ad T) (H:Am T),Av H st→(∀ q∈pd,NK P ops lz H st.nx q)→Qb P ops st=true→Hi Γ rec ops pr lz il n v pd st R' K=some r→(∀ H' st',Nx H st H' st'→K st'=some r→PK st'.toSt)→
 ∀ (m:Nat) (L:List Bool) (D:List (Nat×Nat)) (F:Fr) (a:Act) (w:World) (G:Au),Fx P ops pr lz F0 v st m L D F a w G→CF P ops (fun e a' w'=>e= .normal ∧ ∃ s G',PK s∧R F0 s a' w' G') pr lz m L.toArray a w
 | 0,v,pd,st,H,hw,hpd,hma,hr,hK,m,L,D,F,a,w,G,h=>by
   simp only [Hi]at hr
   split at hr
   ·cases hr
   split at hr
   ·rename_i hall
    simp only [List.all_eq_true,List.mem_range]at hall
    have hD:D=[]:=by
     cases D with
     | nil=>rfl
     | cons p D=>
       obtain⟨q1,q2,_⟩:=h.hD p (by simp)
       grind
    subst hD
    obtain⟨s,⟨⟨H1,n1⟩,_,w1⟩,hr⟩:=D5 ops.size il hw R' _ r hr
    obtain⟨G',hR'⟩:=w1 F a w G h.hR
    have hQ:(fun(e:Exit) (a':Act) (w':World)=>e= .normal ∧ ∃ s G',PK s∧R F0 s a' w' G') .normal a w:=⟨rfl,s.toSt,G',hK H1 s n1 hr,h.ht.back hi0 hd0 hl0 hR'⟩
    have hrd:Region.ready .any ops L.toArray=[]:=by
     rw [Wz h.hL,List.filter_eq_nil_iff]
     intro i hi
     have:bv L i=true:=by rw [h.hb,hall i (by simpa using hi)];rfl
     simp [Lk,this]
    cases m with
    | zero=>exact⟨hrd,hQ⟩
    | succ m=>exact⟨fun _=>hQ,fun i hi=>by rw [hrd]at hi;cases hi⟩
   ·cases hr
 | n+1,v,pd,st,H,hw,hpd,hma,hr,hK,m,L,D,F,a,w,G,h=>by
   obtain⟨hns,hp,hstat⟩:=Ew hst
   have hQ: ∀ c a w, ¬(fun(e:Exit) (a':Act) (w':World)=>e= .normal ∧ ∃ s G',PK s∧R F0 s a' w' G') (.panic c) a w:=(by grind)
   have hI:F.I=I:=h.ht.inv0.trans hI0
   have hm:a.tmps.size=st.m:=by rw [h.hR.size];exact AS _ _
   have hck:=Qd hr
   simp only [Hi]at hr
   split at hr
   ·cases hr
   split at hr
   ·rename_i i hpick
    obtain⟨hil,hrdv,hcN⟩:=Yd hpick
    have hiu:=Zs hrdv
    have hiD: ∀ b,(i,b)∉D:=fun b hb=>by
     obtain⟨_,_,o,d,x,arr,Tt,r1,r2,_⟩:=h.hD _ hb
     grind [Zt,Yb]
    have hrdy:=h.rdy hil hrdv hiD
    have hdc':=h.hdc.set hp hrdy
    rw [Bm]at hdc'
    obtain⟨m',rfl⟩: ∃ m',m=m'+1:=⟨m - 1,by have:=h.pos hil hiu hiD;omega⟩
    split at hr
    ·rename_i o hi
     have hc:Cz o ≠ 0:=by grind [Iu]
     obtain⟨hgd,d,hd⟩:=G9 hc
     have hdl:d∉o.looksAt ops:=(by grind)
     have hnsel:=fun cs b=>Region.noSelect_spec hns i o cs b hi
     have go: ∀ (st':Ad T) (H':Am T) (pd':List Jb),eD o st=true→Nx H st H' st'→(∀ q∈pd',NK P ops lz H' st'.nx q)→(∃ u G',(∀ w',(Cz o=2∨BY w w')→(execOp a.eval o).run P w'= .ok (.value u) w')∧R F st'.toSt (a.put o.dst u) w G')→
      Hi Γ rec ops pr lz il n (v.set i true) pd' st' R' K=some r→CF P ops (fun e a' w'=>e= .normal ∧ ∃ s G',PK s∧R F0 s a' w' G') pr lz (m'+1) L.toArray a w:=by
      intro st' H' pd' hlt hn hpd' ⟨u,G',hrun,hR'⟩ hq
      have hW:aO P (i∈lz) o (a.put o.dst u) w:=by
       intro d' hd'
       refine⟨_, .inr rfl,fun w' hw'=>?_⟩
       rw [hd]at hd';injection hd' with hd';subst hd'
       rw [execOp_put o hnsel a o.dst u (fun e he=>by rw [hd]at he;injection he with he;exact he▸hdl),hrun w' hw',hd]
       simp_all [eD,Act.put]
      have hS':=QF.take hst hi hc h.hdc hrdy h.hS hW
      refine kL (v:=u) hst hlz hi hc hQ m' L.toArray a w h.hdc hrdy ?_
      rw [Bm]at hS' ⊢
      have hfx:Fx P ops pr lz F0 (v.set i true) st' m' (L.set i true) D F (a.put o.dst u) w G':=?_
      ·intro a'' hu
       have hf2:=hfx.ups hst hdn hlz hn.ok hpd' (Qd hq) hu
       exact⟨hf2.hS,Ll hst hdn hlz hrec il hI0 hi0 hd0 hl0 n (v.set i true) pd' st' H' hn.ok hpd' (E4 hma) hq (fun H'' s n' q=>hK H'' s (hn.trans n') q) m' _ D F _ w G' hf2⟩
      refine⟨⟨by simpa using h.hv,by simpa using h.hL,fun k=>?_,hdc',h.n1,h.n2,fun p hp'=>?_,h.ht,?_,hR'⟩,hS'⟩
      ·rw [Ci (by rw [h.hL];exact hil),Ci (by rw [h.hv];exact hil),h.hb,Bool.or_assoc]
      ·obtain⟨q1,q2,q3⟩:=h.hD p hp'
       have hne:p.1 ≠ i:=(by grind)
       refine⟨q1,by rw [Ci (by rw [h.hv];exact hil),q2];grind,q3.move fun d' o' ho' hd'=>?_⟩
       exact Cb (fun e he=>EB hdn hi ho' (Ne.symm hne) he hd')
      ·have h1:=N4 h.hv hil hiu
       have h2:=h.hc
       omega
     have pdx: ∀ {st':Ad T} {H':Am T},Nx H st H' st'→ ∀ q∈pd,NK P ops lz H' st'.nx q:=fun hn q hq=>(hpd q hq).nx hn
     have ofYld: ∀ {B:St},kT P I o st.toSt B→Cz o ≠ 2→ ∃ u G',(∀ w',(Cz o=2∨BY w w')→(execOp a.eval o).run P w'= .ok (.value u) w')∧R F B (a.put o.dst u) w G':=fun hy h2=>by
      obtain⟨u,G',q1,q2⟩:=hy F a w G hI h.hR
      grind
     split at hr
     ·rename_i h2 hlt
      have h2:Cz o=2:=(by simp_all)
      have hsl:Is o.op=true:=by
       grind [Cz]
      obtain⟨u,hu,hr⟩:=G7 hw (He _ _) o.op R' _ r hr
      obtain⟨q1,q2,q3⟩:=hu rfl
      obtain⟨H',hn⟩:=Ad.put_nx hw o.dst q1
      refine go _ H' pd hlt hn (pdx hn) ?_ hr
      obtain⟨x,k1,k2⟩:=XR h.hR rfl hsl q2
      change Ab w G (CA P st.toSt true o.op).2 x at k1
      rw [show (CA P st.toSt true o.op).2=u.toV from q3]at k1
      exact⟨x,G,fun w' _=>k2 w',by rw [Ad.put_toSt];exact h.hR.put k1⟩
     ·rename_i h2 hlt
      have h2:Cz o ≠ 2:=fun e=>by simp_all
      split at hr
      ·obtain⟨st',⟨⟨H',hn⟩,_,hy⟩,hr⟩:=Zl (I:=I) hw R' _ r hr
       grind
      ·obtain⟨st',⟨⟨H',hn⟩,_,hy⟩,hr⟩:=dU (I:=I) hw R' _ r hr
       grind
      ·cases hr
      ·rename_i hld
       have hrdk:A2 o.op= .rd :=by
        unfold nr at hld
        split at hld
        ·rename_i q;rw [q];rfl
        ·cases hld
       split at hr
       ·rename_i st' q hq
        obtain⟨H',hn,_,hy,hpq,_⟩:=iB (I:=I) hw (lz:=lz) (fun q=>BQ.1 q) hi hq
        grind
       ·obtain⟨u,hu,hr⟩:=G7 hw (He _ _) o.op R' _ r hr
        obtain⟨H',hn⟩:=Ad.put_nx hw o.dst (hu rfl).1
        exact go _ H' pd hlt hn (pdx hn) (ofYld (ek hw hrdk hu) h2) hr
     ·cases hr
    ·cases hr
   ·split at hr
    ·rename_i i hpick
     obtain⟨hil,hrdv⟩:=Yc hpick
     have hiu:=Zs hrdv
     split at hr
     ·rename_i o hi hok
      simp only [Bool.and_eq_true]at hok
      obtain⟨hok,hun⟩:=hok
      split at hr
      ·
       rename_i hc hmk
       split at hr
       ·rename_i d x hd hx
        split at hr
        ·rename_i s hs
         have hxr: ∀ {m:Nat} {L:List Bool} {D:List (Nat×Nat)} {F:Fr} {a:Act} {w:World} {G:Au} {b:Nat},Fx P ops pr lz F0 v st m L D F a w G→(i,b)∈D→CF P ops (fun e a' w'=>e= .normal ∧ ∃ s G',PK s∧R F0 s a' w' G') pr lz m L.toArray a w:=by
          intro m L D F a w G b h hib
          obtain⟨G',hfx⟩:=h.adopt hi0 hl0 hw hib hi hd hx hs
          obtain⟨_,_,_,_,_,_,_,r1,_,_,r4,r5,_⟩:=h.hD _ hib
          simp only at r1
          rw [hi]at r1;injection r1 with r1;subst r1
          rw [hx]at r4;injection r4 with r4;subst r4
          obtain⟨⟨H1,n1⟩,_,_⟩:=Ad.new_spec hw r5.ok hs
          obtain⟨H2,n2⟩:=Ad.put_spec n1 (some d) (v:= .c (.c (P9 x (d::st.pre)))) (by simp only [DV.ok,DC.ok])
          exact Ll hst hdn hlz hrec il hI0 hi0 hd0 hl0 n (v.set i true) pd _ H2 n2.ok (fun q hq=>(hpd q hq).nx n2) (E4 hma) hr (fun H'' s n' q=>hK H'' s (n2.trans n') q) m _ _ _ a w G' hfx
         have main: ∀ (m:Nat) (L:List Bool) (D:List (Nat×Nat)) (F:Fr) (a:Act) (w:World) (G:Au),Fx P ops pr lz F0 v st m L D F a w G→CF P ops (fun e a' w'=>e= .normal ∧ ∃ s G',PK s∧R F0 s a' w' G') pr lz m L.toArray a w:=by
          intro m
          induction m with
          | zero=>
            intro L D F a w G h
            by_cases hiD: ∃ b,(i,b)∈D
            ·grind
            ·have:=h.pos hil hiu (by grind)
             omega
          | succ m ih=>
            intro L D F a w G h
            by_cases hiD: ∃ b,(i,b)∈D
            ·grind
            ·have hiD: ∀ b,(i,b)∉D:=(by grind)
             refine⟨fun q=>(by have:=h.rdy hil hrdv hiD;grind),fun j hj=>?_⟩
             have hmj:Yb ops j=true:=by
              by_cases hji:j=i
              ·grind [Yb]
              ·exact h.other hp hok hiD hj hji
             exact h.make hst hdn hlz hpd hck hi0 hw hma hun hj hmj (by grind)
         grind
        ·cases hr
       ·cases hr
      ·rename_i hc hmk
       have hiD: ∀ {m:Nat} {L:List Bool} {D:List (Nat×Nat)} {F:Fr} {a:Act} {w:World} {G:Au},Fx P ops pr lz F0 v st m L D F a w G→ ∀ b,(i,b)∉D:=by
        intro m L D F a w G h b hb
        obtain⟨_,_,o',_,_,_,_,r1,r2,_⟩:=h.hD _ hb
        grind
       split at hr
       ·rename_i hbs0
        have hbs:eC o=true:=by grind
        have hg:o.guard=none:=by
         grind [eC]
        have main: ∀ (m:Nat) (L:List Bool) (D:List (Nat×Nat)) (F:Fr) (a:Act) (w:World) (G:Au),Fx P ops pr lz F0 v st m L D F a w G→CF P ops (fun e a' w'=>e= .normal ∧ ∃ s G',PK s∧R F0 s a' w' G') pr lz m L.toArray a w:=by
         intro m
         induction m with
         | zero=>
           intro L D F a w G h
           have:=h.pos hil hiu (hiD h)
           omega
         | succ m ih=>
           intro L D F a w G h
           have hrdy:=h.rdy hil hrdv (hiD h)
           refine⟨(by grind),fun j hj=>?_⟩
           by_cases hji:j=i
           ·subst hji
            have hI:F.I=I:=h.ht.inv0.trans hI0
            have hdc':=h.hdc.set hp hrdy
            rw [Bm]at hdc'
            obtain⟨st',⟨⟨H',hn⟩,e1,e2,_⟩,hq⟩:=NX hw o R' _ r hr
            have hckz:=Qd hq
            refine XT hst hlz hi hc h.hdc hj h.hS (K:=fun a' w'=>BY w w'∧ ∃ G',R F st'.toSt a' w' G') ?_ ?_ ?_ ?_
            ·rw [CO hg,if_pos rfl]
             exact nC hbs e1 e2 h.hR
            ·intro a' w' ⟨hsm,_⟩ p op hop hcp hpl hpf he1 he2 hW d hd
             obtain⟨u,m1,m2⟩:=hW d hd
             refine⟨u,by grind,fun w1 hw1=>?_⟩
             have h1:=hw1.resolve_left (by rw [hcp];omega)
             rw [he1 w1 (hsm.trans h1)]
             exact m2 w1 (.inr (hsm.trans h1))
            ·intro a' w' a'' ⟨hsm,G',hR'⟩ ⟨p,op,d,u,u1,hop,u3,hpl,hpf,u6,ea⟩
             subst ea
             refine⟨hsm,G',?_⟩
             have hcp:=(FA hlz u1 hop).1
             have hpne:p ≠ j:=(by grind)
             have hvp:bv (v.set j true) p=true:=by
              rw [Ci (by rw [h.hv];exact hil)]
              rcases Ca hpl with e | q
              ·grind
              ·rw [D6,h.hb,Bool.or_eq_true]at q
               rw [Bool.or_eq_true]
               rcases q with q | q
               ·exact .inr q
               ·exfalso
                obtain⟨b,hb⟩:=I2.1 q
                obtain⟨_,_,o',_,_,_,_,r1,r2,_⟩:=h.hD _ hb
                simp_all [IF]
             simp only [Nu,List.all_eq_true,Bool.or_eq_true,Bool.not_eq_true']at hckz
             rcases hckz p u1 with q | q | q
             ·grind
             ·exfalso
              refine hpf ?_
              simp only [eA,List.any_eq_true,List.mem_range,Bool.and_eq_true,Nat.beq_eq,BQ]at q
              obtain⟨k,_,k1,k2,k3⟩:=q
              refine⟨k,?_,k2,k3⟩
              rw [Bm,D6,Ci (by rw [h.hL];exact hil),h.hb]
              rw [Ci (by rw [h.hv];exact hil)]at k1
              grind
             ·simp only [List.any_eq_true,Bool.and_eq_true,Nat.beq_eq]at q
              obtain⟨q0,hq0,e0,hok'⟩:=q
              subst e0
              obtain⟨r1,x,_,r2,r3⟩:=N3 hn.ok ((hpd q0 hq0).nx hn) hok' hop hR'
              rw [u3]at r1;injection r1 with r1;subst r1
              rw [r3 w' (BY.refl w')]at u6
              have hxu:x=u:=by grind
              subst hxu
              exact hR'.reput r2
            ·intro a' w' ⟨_,G',hR'⟩ ha' hS'
             rw [Bm]at hS' ⊢
             refine Ll hst hdn hlz hrec il hI0 hi0 hd0 hl0 n (v.set j true) pd st' H' hn.ok (fun q hq=>(hpd q hq).nx hn) (E4 hma) hq (fun H'' s n' q=>hK H'' s (hn.trans n') q) m _ D F a' w' G' ⟨⟨by simpa using h.hv,by simpa using h.hL,fun k=>?_,hdc',h.n1,h.n2,fun p hp'=>?_,h.ht,?_,hR'⟩,hS'⟩
             ·rw [Ci (by rw [h.hL];exact hil),Ci (by rw [h.hv];exact hil),h.hb,Bool.or_assoc]
             ·obtain⟨q1,q2,q3⟩:=h.hD p hp'
              have hne:p.1 ≠ j:=(by grind)
              refine⟨q1,by rw [Ci (by rw [h.hv];exact hil),q2];grind,q3.move fun d' o' ho' hd'=>?_⟩
              exact ha' d' (fun he=>EB hdn hi ho' (Ne.symm hne) he hd' rfl) fun p2 op2 hp2 hc2 hd2=>by
               have hpp:p2 ≠ p.1:=(by grind [nB])
               exact EB hdn hp2 ho' hpp hd2 hd' rfl
             ·have h1:=N4 h.hv hil hiu
              have h2:=h.hc
              omega
           ·exact h.make hst hdn hlz hpd hck hi0 hw hma hun hj (h.other hp hok (hiD h) hj hji) (by grind)
        grind
       ·skip
        have main: ∀ (m:Nat) (L:List Bool) (D:List (Nat×Nat)) (F:Fr) (a:Act) (w:World) (G:Au),Fx P ops pr lz F0 v st m L D F a w G→CF P ops (fun e a' w'=>e= .normal ∧ ∃ s G',PK s∧R F0 s a' w' G') pr lz m L.toArray a w:=by
         intro m
         induction m with
         | zero=>
           intro L D F a w G h
           have:=h.pos hil hiu (hiD h)
           omega
         | succ m ih=>
           intro L D F a w G h
           have hrdy:=h.rdy hil hrdv (hiD h)
           refine⟨(by grind),fun j hj=>?_⟩
           by_cases hji:j=i
           ·subst hji
            have hI:F.I=I:=h.ht.inv0.trans hI0
            have hdc':=h.hdc.set hp hrdy
            rw [Bm]at hdc'
            have hwp:=lK hrec hw (PK:=fun s=> ∃ H' st',Nx H st H' st'∧Qc ops pr (v.set j true) pd st'=true∧Hi Γ rec ops pr lz il n (v.set j true) pd st' R' K=some r∧s=st'.toSt) hr (by grind)
            have fresh: ∀ {st':Ad T} {p:Nat} {op:Oper},Qc ops pr (v.set j true) pd st'=true→ops[p]? =some op→Cz op=1→L.toArray.getD p false=true→ ¬mD ops pr p (L.toArray.setIfInBounds j true)→ ∃ q∈pd,q.i=p∧bl st' q=true:=by
             intro st' p op hck hop hcp hpl hpf
             simp only [Qc,List.all_eq_true,List.mem_range,Bool.or_eq_true,Bool.not_eq_true']at hck
             have hpl':p<ops.size:=(by grind)
             have hLp:(L.set j true).toArray.getD p false=true:=by grind [getD_set_true]
             have hcl1:Iu ops p=1:=by grind [Iu]
             have hvp:bv (v.set j true) p=true:=by
              rw [D6,Ci (by rw [h.hL];exact hil),h.hb]at hLp
              rw [Ci (by rw [h.hv];exact hil)]
              simp only [Bool.or_eq_true]at hLp ⊢
              rcases hLp with q | q | q
              ·exact .inl q
              ·exact .inr q
              ·exfalso
               obtain⟨b,hb⟩:=I2.1 q
               obtain⟨_,_,o',_,_,_,_,r1,r2,_⟩:=h.hD _ hb
               grind [Zt,Yb]
             rcases hck p hpl' with q | q | q | q
             ·grind
             ·simp_all
             ·exfalso
              refine hpf ?_
              simp only [eA,List.any_eq_true,List.mem_range,Bool.and_eq_true,Nat.beq_eq,BQ]at q
              obtain⟨k,_,k1,k2,k3⟩:=q
              refine⟨k,?_,k2,k3⟩
              rw [Bm,D6,Ci (by rw [h.hL];exact hil),h.hb]
              rw [Ci (by rw [h.hv];exact hil)]at k1
              grind
             simp_all
            refine XT hst hlz hi hc h.hdc hj h.hS (K:=fun a' w'=> ∃ H' st' G',Nx H st H' st'∧Qc ops pr (v.set j true) pd st'=true∧Hi Γ rec ops pr lz il n (v.set j true) pd st' R' K=some r∧R F st'.toSt a' w' G') ?_ ?_ ?_ ?_
            ·have:=IT (Q:=fun e a' w'=>e= .normal ∧ ∃ s G',PK s∧R F0 s a' w' G') h.hR (by rw [hI];exact hwp)
             have cv: ∀ a' w',U2 F (fun s=> ∃ s',Wk s s'∧ ∃ H' st',Nx H st H' st'∧Qc ops pr (v.set j true) pd st'=true∧Hi Γ rec ops pr lz il n (v.set j true) pd st' R' K=some r∧s'=st'.toSt) a' w'→ ∃ H' st' G',Nx H st H' st'∧Qc ops pr (v.set j true) pd st'=true∧Hi Γ rec ops pr lz il n (v.set j true) pd st' R' K=some r∧R F st'.toSt a' w' G':=by
              rintro a' w' ⟨s,G1,⟨s',hwk,H',st',k1,k2,k3,rfl⟩,hR1⟩
              obtain⟨G2,hR2⟩:=hwk _ _ _ _ hR1
              grind
             split at this
             ·rename_i hwt
              rw [if_pos hwt]
              exact Oper.wp_mono cv this
             ·rename_i hwt
              rw [if_neg hwt]
              exact cv _ _ this
            ·intro a' w' ⟨H',st',G',hn,hck,_,hR'⟩ p op hop hcp hpl hpf _ _ _
             obtain⟨q0,hq0,e0,hok'⟩:=fresh hck hop hcp hpl hpf
             subst e0
             exact ej hn.ok ((hpd q0 hq0).nx hn) hok' hop hcp hR'
            ·intro a' w' a'' ⟨H',st',G',hn,hck,hq,hR'⟩ ⟨p,op,d,u,u1,hop,u3,hpl,hpf,u6,ea⟩
             subst ea
             have hcp:=(FA hlz u1 hop).1
             refine⟨H',st',G',hn,hck,hq,?_⟩
             have hpl2:L.toArray.getD p false=true:=by
              grind [Ca]
             obtain⟨q0,hq0,e0,hok'⟩:=fresh hck hop hcp hpl2 hpf
             subst e0
             obtain⟨r1,x,_,r2,r3⟩:=N3 hn.ok ((hpd q0 hq0).nx hn) hok' hop hR'
             rw [u3]at r1;injection r1 with r1;subst r1
             rw [r3 w' (BY.refl w')]at u6
             have hxu:x=u:=by grind
             subst hxu
             exact hR'.reput r2
            ·intro a' w' ⟨H',st',G',hn,_,hq,hR'⟩ ha' hS'
             rw [Bm]at hS' ⊢
             refine Ll hst hdn hlz hrec il hI0 hi0 hd0 hl0 n (v.set j true) pd st' H' hn.ok (fun q hq=>(hpd q hq).nx hn) (E4 hma) hq (fun H'' s n' q=>hK H'' s (hn.trans n') q) m _ D F a' w' G' ⟨⟨by simpa using h.hv,by simpa using h.hL,fun k=>?_,hdc',h.n1,h.n2,fun p hp'=>?_,h.ht,?_,hR'⟩,hS'⟩
             ·rw [Ci (by rw [h.hL];exact hil),Ci (by rw [h.hv];exact hil),h.hb,Bool.or_assoc]
             ·obtain⟨q1,q2,q3⟩:=h.hD p hp'
              have hne:p.1 ≠ j:=(by grind)
              refine⟨q1,by rw [Ci (by rw [h.hv];exact hil),q2];grind,q3.move fun d' o' ho' hd'=>?_⟩
              exact ha' d' (fun he=>EB hdn hi ho' (Ne.symm hne) he hd' rfl) fun p2 op2 hp2 hc2 hd2=>by
               have hpp:p2 ≠ p.1:=(by grind [nB])
               exact EB hdn hp2 ho' hpp hd2 hd' rfl
             ·have h1:=N4 h.hv hil hiu
              have h2:=h.hc
              omega
           ·exact h.make hst hdn hlz hpd hck hi0 hw hma hun hj (h.other hp hok (hiD h) hj hji) (by grind)
        grind
      ·cases hr
     ·cases hr
    ·cases hr
def py:HA→Bool
 | .q .lz =>true
 | _=>false
def pz (ops:Array Oper) (i:Nat):Bool:=match ops[i]? with
 | some o=>match o.op with
   | .load _ (.tmp d)=>ops.toList.any fun q=>match q.op,q.dst with
     | .indexAddr ..,some e=>Nat.beq d e
     | _,_=>false
   | _=>false
 | none=>false
def eH (ops:Array Oper) (il:Hl):List Nat:=match (List.range ops.size).any fun i=>match Hh il i with
    | .c _=>true
    | .j .. =>true
    | _=>false with
 | true=>(List.range ops.size).filter fun i=>Ja ops [i]&& !pz ops i
 | false=>(List.range ops.size).filter fun i=>py (Hh il i)&&Ja ops [i]
theorem eJ {ops:Array Oper} {il:Hl}:Ja ops (eH ops il)=true:=by
 unfold eH
 split
 ·grind [Ja]
 ·unfold Ja
  grind
def lL {P:Program} {I:World→Prop} (Γ:List (CE T P I)) (rec:bi T) (ops:Array Oper) (il:Hl) (pr:List (List Nat)) (st:Ad T) (R:Type) (K:Ad T→Option R):Option R:=match L8 ops pr&&(Qa ops&&Qb P ops st)with
 | true=>Hi Γ rec ops pr (eH ops il) il ops.size (List.replicate ops.size false) [] (bn ops.toList st) R K
 | false=>none
theorem Uk: ∀ (l:List Oper) {H:Am T} {st:Ad T},Av H st→(∃ H',Nx H st H' (bn l st))∧Wk st.toSt (bn l st).toSt
 | [],H,st,hw=>⟨⟨H,Nx.refl hw⟩,Wk.less (Bk.refl _)⟩
 | o::r,H,st,hw=>by
   unfold bn
   split
   ·obtain⟨H1,n1⟩:=Ad.put_nx hw o.dst (v:= .u) (by simp only [DV.ok])
    obtain⟨⟨H2,n2⟩,w2⟩:=Uk r n1.ok
    refine⟨⟨H2,n1.trans n2⟩,Wk.trans ?_ w2⟩
    intro F a w G hR
    refine⟨G,?_⟩
    rw [Ad.put_toSt]
    cases hd:o.dst with
    | none=>exact hR
    | some d=>exact hR.reslot (by simp only [DV.toV,Ab])
   ·exact Uk r hw
theorem iF (hfol:P.follows .mixedOrders =true) (hrec:Ww P I rec) {il:Hl} {id:Nat} (hw:Av H st) {R':Type} {K:Ad T→Option R'} {r:R'} (hr:lL Γ rec ops il pr st R' K=some r) {F:Fr} (hI:F.I=I) {PK:St→Prop} {Q:Exit→St→Prop} (hPK: ∀ s,PK s→Q .normal s)
 (hK: ∀ H' st',Nx H st H' st'→K st'=some r→PK st'.toSt):Ah P F (.region id ops true) st.toSt Q:=by
 unfold lL at hr
 split at hr
 ·rename_i hst
  simp only [Bool.and_eq_true]at hst
  obtain⟨hst,hdn,hma⟩:=hst
  obtain⟨⟨H1,n1⟩,w1⟩:=Uk ops.toList hw
  refine Ah.wk w1 ?_
  intro a w G hR
  have hR':=hR.same (w':={w with drawn:=w.drawn+1}) ⟨rfl,rfl,rfl⟩ ⟨Nat.le_refl _,fun _ _=>rfl⟩
  have hz: ∀ k,bv (List.replicate ops.size false) k=false:=(by grind [bv])
  have hz2: ∀ k,(List.replicate ops.size false).toArray.getD k false=false:=fun k=>by rw [D6,hz]
  have hu:(iE ops.size (List.replicate ops.size false)).length ≤ops.size:=by
   grind [iE]
  have key:=Ll (pr:=pr) hst hdn eJ hrec il hI hR.inv hR.avold hR.avlt ops.size _ [] _ H1 n1.ok (by grind) (E4 hma) hr (fun H' s n q=>hK H' s (n1.trans n) q) ops.size (List.replicate ops.size false) [] F a {w with drawn:=w.drawn+1} G
   (.mk ⟨(by simp),(by simp),(by grind),(fun k hk=>by rw [hz2]at hk;cases hk),List.nodup_nil,List.nodup_nil,(by grind),GE.start F,(by grind),hR'⟩ (fun i o _ _ hl=>by rw [hz2]at hl;cases hl))
  have:=Pu _ _ _ _ key
  have h2:=wp_region_any (id:=id) hfol (by simpa using this)
  grind [Code.wp_mono]
 ·cases hr
end
end Go.PL
