/- The pure logic: Tg, Th, Ti, Tj, Tk, Tl, Tm, Tn, To, Tp, Tq, Tr, Ts, PlPd. -/
import Derived.Test.YtiddnfpjgojoaaaGreatDoorPlZtoTf
import Derived.JoinedOf
set_option linter.all false
namespace Go.PL
open Go Go.RowKit
variable {T:C6}
def LE (id:AC) (E:Nat) (l:List (T.den E)) (c:DC T):DC T:=match c.men id with
 | false=>c
 | true=>match c with
   | .c (.osl _)=> .k (.lst E) l
   | _=> .c .any
mutual
def DN (id:AC) (E:Nat) (l:List (T.den E)):DV T→DV T
 | .c x=> .c (LE id E l x)
 | .agg cs=> .agg (cs.map (LE id E l))
 | .tup vs=> .tup (HW id E l vs)
 | .g k v=> .g k (DN id E l v)
 | .u => .u
def HW (id:AC) (E:Nat) (l:List (T.den E)):List (DV T)→List (DV T)
 | []=>[]
 | v::vs=>DN id E l v::HW id E l vs
end
def W2 (id:AC) (E:Nat) (l:List (T.den E)):DX T→DX T
 | .box cs=> .box (cs.map (LE id E l))
 | x=>x
def AB.frz (st:AB T) (id:AC):Option (AB T):=match OA st id with
 | some ⟨E,l⟩=>some (let s:=st.remap (DV.men id) (DN id E l) (DX.men id) (W2 id E l);{s with so:=s.so.filter fun e=> !(Cs e.id id)})
 | none=>none
section
variable {id:AC} {E:Nat} {l:List (T.den E)}
theorem au (c:DC T):(LE id E l c).toC =Jn id l.length (l.flatMap (T.enc E)) c.toC:=by
 unfold LE
 cases hm:c.men id with
 | false=>
   rw [DC.men_eq]at hm
   simp only
   cases hc:c.toC<;>rw [hc]at hm<;>simp only [C.men,beq_eq_false_iff_ne,ne_eq]at hm<;>simp only [Jn]<;>first
    | (rw [if_neg hm];done)
    | (rw [if_neg (by simp [hm])];done)
    | rfl
 | true=>
   have hm':=hm
   rw [DC.men_eq]at hm'
   simp only
   split
   ·rename_i i
    simp only [DC.men,tR]at hm
    have:=BH.1 hm
    subst this
    simp only [DC.toC,Ca,Jn,if_true]
   ·rename_i hne
    have: ∀ i,c.toC ≠ .osl i:=fun i he=>by
     cases c with
     | c x=>simp only [DC.toC]at he;subst he;exact hne i rfl
     | k kd x=>cases kd<;>simp [DC.toC,Ca]at he
     | ip=>simp [DC.toC]at he
     | rp=>simp [DC.toC]at he
     | ap=>simp [DC.toC]at he
     | clo b f cs=>cases b<;>simp [DC.toC]at he
    cases hc:c.toC<;>rw [hc]at hm' this<;>simp only [C.men,beq_iff_eq,Bool.false_eq_true]at hm'<;>simp only [Jn,DC.toC]<;>first
     | exact(this _ rfl).elim
     | (rw [if_pos hm'];done)
theorem W3 {c:DC T} (h:c.ok):(LE id E l c).ok :=by
 unfold LE
 split
 ·exact h
 ·split<;>simp only [DC.ok]
theorem W4 (cs:List (DC T)):A2 (cs.map (LE id E l))=(A2 cs).map (Jn id l.length (l.flatMap (T.enc E))):=by
 rw [CZ,CZ,List.map_map,List.map_map]
 exact List.map_congr_left fun c _=>au c
mutual
theorem NQ: ∀ v:DV T,(DN id E l v).toV =JQ id l.length (l.flatMap (T.enc E)) v.toV
 | .c x=>by simp only [DN,DV.toV,JQ,au]
 | .agg cs=>by simp only [DN,DV.toV,JQ,W4]
 | .tup vs=>by simp only [DN,DV.toV,JQ,W5 vs]
 | .g k v=>by simp only [DN,DV.toV,JQ,NQ v]
 | .u =>by simp only [DN,DV.toV,JQ]
theorem W5: ∀ vs:List (DV T),Bx (HW id E l vs)=JR id l.length (l.flatMap (T.enc E)) (Bx vs)
 | []=>by simp only [HW,Bx,JR]
 | v::vs=>by simp only [HW,Bx,JR,NQ v,W5 vs]
end
theorem W6: ∀ {cs:List (DC T)},Qp id cs=false→cs.map (LE id E l)=cs
 | [],_=>rfl
 | c::cs,h=>by
   simp only [Qp]at h
   split at h
   ·cases h
   ·rename_i hc
    have:LE id E l c=c:=by unfold LE;simp only [hc]
    rw [List.map_cons,W6 h,this]
mutual
theorem W7: ∀ v:DV T,v.men id=false→DN id E l v=v
 | .c x,h=>by simp only [DV.men]at h;simp only [DN,LE,h]
 | .agg cs,h=>by simp only [DV.men]at h;simp only [DN,W6 h]
 | .tup vs,h=>by simp only [DV.men]at h;simp only [DN,aw vs h]
 | .g k v,h=>by simp only [DV.men]at h;simp only [DN,W7 v h]
 | .u,_=>by simp only [DN]
theorem aw: ∀ vs:List (DV T),aq id vs=false→HW id E l vs=vs
 | [],_=>by simp only [HW]
 | v::vs,h=>by
   simp only [aq]at h
   split at h
   ·cases h
   ·rename_i hv
    simp only [HW,W7 v hv,aw vs h]
end
theorem gp {f:DC T→DC T} (hf: ∀ c,c.ok→(f c).ok) {cs:List (DC T)} (h:Cm cs):Cm (cs.map f):=Co.2 fun c hc=>by
 obtain⟨d,h1,rfl⟩:=List.mem_map.1 hc
 exact hf d (Co.1 h d h1)
mutual
theorem W8 {H:A0 T} {n:Nat}: ∀ {v:DV T},v.ok H n→(DN id E l v).ok H n
 | .c x,h=>by simp only [DV.ok,DN]at h ⊢;exact W3 h
 | .agg cs,h=>by simp only [DV.ok,DN]at h ⊢;exact gp (fun _ q=>W3 q) h
 | .tup vs,h=>by simp only [DV.ok,DN]at h ⊢;exact ax h
 | .g k v,h=>by simp only [DV.ok,DN]at h ⊢;exact⟨h.1,fun q=>W8 (h.2 q)⟩
 | .u,_=>by simp only [DV.ok,DN]
theorem ax {H:A0 T} {n:Nat}: ∀ {vs:List (DV T)},Dk H n vs→Dk H n (HW id E l vs)
 | [],_=>by simp only [Dk,HW]
 | v::vs,h=>by simp only [Dk,HW]at h ⊢;exact⟨W8 h.1,ax h.2⟩
end
theorem ay {e:DE T} (t:Nat):(⟨e.id,t,W2 id E l e.x⟩:DE T).toE =AM.frz id l.length (l.flatMap (T.enc E)) e.toE:=by
 unfold DE.toE
 cases hxx:e.x with
 | box cs=>simp only [W2,AM.frz,W4]
 | row E l=>rfl
theorem rr {e:DE T} (h:e.x.men id=false):AM.frz id l.length (l.flatMap (T.enc E)) e.toE=e.toE:=by
 rw [←ay e.tag]
 cases hxx:e.x with
 | box cs=>rw [hxx]at h;simp only [DX.men]at h;simp only [W2,W6 h,DE.toE,hxx]
 | row E l=>simp only [W2,DE.toE,hxx]
theorem ku (id:AC) (n:Nat) (cs:List C) (l:List AM):(l.map (AM.frz id n cs)).filter (fun e=>e.id != id)=(l.filter (fun e=>e.id != id)).map (AM.frz id n cs):=by
 induction l with
 | nil=>rfl
 | cons e l ih=>
   simp only [List.filter_cons,List.map_cons,AM.frz_id]
   split
   ·rw [ih,List.map_cons]
   ·exact ih
theorem filter_toE' (id:AC) (l:List (DE T)):(l.filter fun e=> !(Cs e.id id)).map DE.toE=(l.map DE.toE).filter (fun e=>e.id != id):=by
 induction l with
 | nil=>rfl
 | cons e l ih=>
   simp only [List.filter_cons,List.map_cons,DE.toE_id,JY]at ih ⊢
   cases h:e.id==id with
   | true=>simp only [bne,h,Bool.not_true,Bool.false_eq_true,if_false];exact ih
   | false=>simp only [bne,h,Bool.not_false,if_true,List.map_cons];rw [ih];rfl
end
theorem AB.frz_spec {H:A0 T} {st st':AB T} {id:AC} (h:BW H st) (hk:st.frz id=some st'):(∃ H',Nx H st H' st')∧st'.toSt=st.toSt.freeze id∧st.toSt.okFrz id=true∧st'.pre=st.pre:=by
 unfold AB.frz at hk
 split at hk
 ·rename_i E l hr
  injection hk with hk;subst hk
  obtain⟨hl,_,_⟩:=DM hr
  obtain⟨H',hN⟩:=AB.remap_nx (p:=DV.men id) (f:=DN id E l) (q:=DX.men id) (g:=W2 id E l) h W8 (fun {x} hx=>by
   cases x with
   | box cs=>simp only [W2,DX.ok]at hx ⊢;exact gp (fun _ q=>W3 q) hx
   | row E l=>exact hx)
  refine⟨⟨H',hN.ext,hN.le,Mw hN.ok _⟩,?_,by simp only [St.okFrz,hl],rfl⟩
  have F1: ∀ tm:Tm T, ∀ i,(DV.men id (lk tm i)=true→(DN id E l (lk tm i)).toV =JQ id l.length (l.flatMap (T.enc E)) (lk tm i).toV)∧(DV.men id (lk tm i)=false→JQ id l.length (l.flatMap (T.enc E)) (lk tm i).toV =(lk tm i).toV):=fun tm i=>
   ⟨fun _=>NQ _,fun hm=>by rw [←NQ,W7 _ hm]⟩
  have fm: ∀ l':List V,JR id l.length (l.flatMap (T.enc E)) l'=l'.map (JQ id l.length (l.flatMap (T.enc E))):=by
   intro l'
   induction l' with
   | nil=>simp [JR]
   | cons a b ih=>simp [JR,ih]
  unfold St.freeze
  rw [hl]
  simp only [Bool.not_true,Bool.false_eq_true,if_false,AB.toSt,AB.remap,St.mk.injEq,and_true,fm]
  refine⟨gf (by simp [DV.men]) (fun i=>(F1 st.tm i).1) (fun i=>(F1 st.tm i).2) _ _,?_,gg (by simp [DV.men]) _ (fun x _=>F1 x.2)⟩
  rw [filter_toE',WX (F:=AM.frz id l.length (l.flatMap (T.enc E))) _ (fun e _=>⟨fun _ t=>ay t,fun hm=>rr hm⟩)]
  exact ku _ _ _ _
 ·cases hk
def W9 (id:AC) (t:Nat) (x:DX T):List (DE T)→List (DE T)
 | []=>[]
 | e::r=>match Cs e.id id with
   | true=>⟨e.id,t,x⟩::r
   | false=>e::W9 id t x r
def AB.setX (st:AB T) (id:AC) (x:DX T):AB T:={st with so:=W9 id st.nx x st.so,nx:=st.nx+1}
theorem gq (id:AC) (t:Nat) (x:DX T): ∀ l:List (DE T),(W9 id t x l).map DE.id=l.map DE.id
 | []=>rfl
 | e::r=>by
   unfold W9
   split<;>simp [gq id t x r]
theorem Xa {id:AC} {t:Nat} {x:DX T} {F:AM→AM} (hF: ∀ a:AM,a.id ≠ id→F a=a): ∀ {l:List (DE T)} {e:DE T},(l.map DE.id).Nodup →e∈l→e.id=id→F e.toE=(⟨id,t,x⟩:DE T).toE →(l.map DE.toE).map F=(W9 id t x l).map DE.toE
 | [],_,_,h,_,_=>by cases h
 | a::r,e,hn,hm,he,hf=>by
   rw [List.map_cons]at hn
   obtain⟨n1,n2⟩:=List.nodup_cons.1 hn
   unfold W9
   split
   ·rename_i hb
    have hb:=BH.1 hb
    have hae:a=e:=by
     rcases List.mem_cons.1 hm with q | q
     ·exact q.symm
     ·exact absurd (List.mem_map.2 ⟨e,q,he.trans hb.symm⟩) n1
    subst hae
    simp only [List.map_cons,hf]
    rw [←hb]
    congr 1
    refine Gt fun y hy=>?_
    obtain⟨z,hz,rfl⟩:=List.mem_map.1 hy
    refine hF _ ?_
    rw [DE.toE_id]
    intro q
    exact n1 (List.mem_map.2 ⟨z,hz,q.trans hb.symm⟩)
   ·rename_i hb
    have hne:a.id ≠ id:=fun q=>by rw [BH.2 q]at hb;cases hb
    have hm':e∈r:=by
     rcases List.mem_cons.1 hm with q | q
     ·subst q;exact absurd he hne
     ·exact q
    simp only [List.map_cons,Xa hF n2 hm' he hf]
    rw [hF _ (by rw [DE.toE_id];exact hne)]
theorem AB.setX_nx {H:A0 T} {st:AB T} (h:BW H st) (id:AC) {x:DX T} (hx:x.ok): ∃ H',Nx H st H' (st.setX id x):=by
 by_cases hid: ∃ e∈st.so,e.id=id
 ·obtain⟨e0,_,he0⟩:=hid
  have he:=CR.setE H st.nx ⟨id,st.nx,x⟩
  refine⟨H.setE st.nx ⟨id,st.nx,x⟩,he,Nat.le_succ _,Ch he (Nat.le_succ _) h.tm,fun f hf=>Ch he (Nat.le_succ _) (h.gh f hf),?_,by simp only [AB.setX,gq];exact h.nd⟩
  have key: ∀ l:List (DE T),(∀ e∈l,e.tag<st.nx∧H.e e.tag=e∧e.x.ok)→ ∀ e∈W9 id st.nx x l,e.tag<st.nx+1∧(H.setE st.nx ⟨id,st.nx,x⟩).e e.tag=e∧e.x.ok:=by
   intro l
   induction l with
   | nil=>intro _ e hm;cases hm
   | cons a r ih=>
     intro hl e hm
     unfold W9 at hm
     split at hm
     ·rename_i hb
      have hb:=BH.1 hb
      rcases List.mem_cons.1 hm with rfl | hm
      ·exact⟨Nat.lt_succ_self _,by simp [A0.setE,hb],hx⟩
      ·exact E4 he (Nat.le_succ _) hl e (by simp [hm])
     ·rcases List.mem_cons.1 hm with rfl | hm
      ·exact E4 he (Nat.le_succ _) hl e (by simp)
      ·exact ih (fun y hy=>hl y (by simp [hy])) e hm
  exact key st.so h.so
 ·have: ∀ l:List (DE T),(∀ e∈l,e.id ≠ id)→W9 id st.nx x l=l:=by
   intro l
   induction l with
   | nil=>intro _;rfl
   | cons a r ih=>
     intro hl
     unfold W9
     split
     ·rename_i hb;exact absurd (BH.1 hb) (hl a (by simp))
     ·rw [ih (fun y hy=>hl y (by simp [hy]))]
  have hs:W9 id st.nx x st.so=st.so:=this st.so (fun e he q=>hid ⟨e,he,q⟩)
  exact⟨H,CR.refl _ _,Nat.le_succ _,Ch (CR.refl _ _) (Nat.le_succ _) h.tm,fun f hf=>Ch (CR.refl _ _) (Nat.le_succ _) (h.gh f hf),by simp only [AB.setX,hs];exact E4 (CR.refl _ _) (Nat.le_succ _) h.so,by simp only [AB.setX,hs];exact h.nd⟩
theorem AB.setX_toSt {H:A0 T} {st:AB T} (h:BW H st) {id:AC} {x:DX T} {e:DE T} (hm:e∈st.so) (he:e.id=id) {cs:List C} {q:Bool} (hx:(⟨id,e.toE.row,cs,e.toE.pu&&q⟩:AM)=(⟨id,st.nx,x⟩:DE T).toE):(st.setX id x).toSt =st.toSt.setCs id cs q:=by
 have:=Xa (t:=st.nx) (x:=x) (F:=fun e=>if e.id==id then⟨e.id,e.row,cs,e.pu&&q⟩else e) (fun a ha=>by simp [ha]) h.nd hm he (by rw [←hx];simp [DE.toE_id,he])
 simp only [AB.toSt,AB.setX,St.setCs,St.mk.injEq,and_true,true_and]
 exact this.symm
end Go.PL
namespace Go.PL
open Go Go.RowKit
variable {T:C6}
def gt:Operand→DV T→DV T
 | .const (.slice none 0 0),_=> .c (.c .nils)
 | _,v=>v
def kw:DV T→DV T
 | .c (.c .nils)=> .c (.c (.sl 0 []))
 | v=>v
def Un {α:Type} (i:Nat) (x:α):Nat→List α→List α
 | _,[]=>[]
 | j,a::r=>(if i=j then x else a)::Un i x (j+1) r
theorem gu {α:Type} {i:Nat} {x:α}: ∀ (l:List α) (j:Nat),j≤i→Un i x j l=l.set (i - j) x
 | [],_,_=>rfl
 | a::r,j,h=>by
   unfold Un
   by_cases hj:i=j
   ·subst hj
    simp only [if_true,Nat.sub_self,List.set_cons_zero,List.cons.injEq,true_and]
    have: ∀ (r:List α) (k:Nat),i<k→Un i x k r=r:=by
     intro r
     induction r with
     | nil=>intro _ _;rfl
     | cons b r ih=>intro k hk;rw [Un,if_neg (by omega),ih _ (by omega)]
    exact this r _ (Nat.lt_succ_self _)
   ·rw [if_neg hj,gu r (j+1) (by omega),show i - j=(i - (j+1))+1 by omega,List.set_cons_succ]
def Mx (E:Nat):List (T.den E)→List (DC T)
 | []=>[]
 | x::l=>km E x++Mx E l
theorem Uo (E:Nat): ∀ l:List (T.den E),A2 (Mx E l)=l.flatMap (T.enc E)
 | []=>by simp [Mx,A2]
 | x::l=>by rw [Mx,B4,HS,Uo E l,List.flatMap_cons]
theorem az (E:Nat): ∀ l:List (T.den E),Cm (Mx E l)
 | []=>by simp [Mx,Cm]
 | x::l=>CL (Pi E x) (az E l)
def tT (E:Nat) (x:T.den E) (off:Nat) (cs:List (DC T)):Option (T.den E):=match Nat.ble (off+cs.length) (T.sz E)with
 | true=>qM false E ((km E x).take off++(cs++(km E x).drop (off+cs.length)))
 | false=>none
def kx (P:Program) (t:TypeId) (d:Option Nat) (st:AB T) (p v:DV T):M (AB T):=
 match Or P t with
 | none=> .no
 | some (_,n)=>match p with
   | .c (.c (.ptr id off))=>match Qi st id,v.cells with
     | some ds,some cs=>mIf (Nat.beq cs.length n&&Nat.ble (off+n) ds.length) (.ret ((st.setX id (.box (ds.take off++(cs++ds.drop (off+n))))).put d .u))
     | _,_=> .no
   | .c (.rp id N i off)=>match OA st id,(kw v).cells with
     | some ⟨E,l⟩,some cs=>mIf (Nat.beq N (T.sz E)&&Nat.beq cs.length n) (.opt (idx l i) fun x=>match tT E x off cs with
       | some x'=> .ret ((st.setX id (.row E (l.set i.toNat x'))).put d .u)
       | none=> .no)
     | _,_=> .no
   | .c (.ap id base m E i off)=>match Qi st id,v.cells with
     | some ds,some cs=>match KJ E m (ds.drop base)with
       | some l=>mIf (Nat.beq cs.length n&&Nat.ble (base+m*T.sz E) ds.length) (.opt (idx l i) fun x=>match tT E x off cs with
         | some x'=> .ret ((st.setX id (.box (ds.take base++(Mx E (Un i.toNat x' 0 l)++ds.drop (base+m*T.sz E))))).put d .u)
         | none=> .no)
       | none=> .no
     | _,_=> .no
   | _=> .no
def HX (st:AB T) (d:Nat) (x:DX T) (v:AC→DC T):M (AB T):=match st.new (d::st.pre) x with
 | some s=> .ret (s.put (some d) (.c (v (d::st.pre))))
 | none=> .no
def cE (P:Program) (t:TypeId):Option (List (DC T)):=
 match P.info? t with
 | some i=>match i.zero with
   | some z=>HR z.cells.toList
   | none=>none
 | none=>none
def Xb:DC T→DC T
 | .c .nils => .c (.sl 0 [])
 | c=>c
def Sw:DV T→DV T
 | .c x=> .c (Xb x)
 | .agg cs=> .agg (cs.map Xb)
 | v=>v
def My (P:Program) (st:AB T) (d:Nat) (t:TypeId) (len:Nat) (ps:List (Nat×Operand)):M (AB T):=
 match EC P t,Sv st [] ps with
 | some (E,n,_),some vs=>match cE P E with
   | some z=>match al (fun i=>some (i*n,n)) ((List.replicate len z).flatMap id) (vs.map fun x=>(x.1,Sw x.2))with
     | some cs=>match KJ E len cs with
       | some l=>mIf (Nat.beq n (T.sz E)&&(Nat.beq z.length n&&(Nat.blt 0 n&&(Nat.ble (len*n) (2 ^ 24)&&Nat.beq cs.length (len*n))))) (HX st d (.row E l) fun i=> .c (.osl i))
       | none=> .no
     | none=> .no
   | none=> .no
 | _,_=> .no
def Pn (P:Program) (st:AB T) (d:Nat) (t:TypeId) (l c:Int):M (AB T):=
 match EC P t with
 | some (E,n,by')=>match cE P E with
   | some z=>match qM false E z with
     | some x=>mIf (Nat.beq n (T.sz E)&&(Nat.beq z.length n&&Nat.blt 0 n)) (.opt (need (0≤l∧l≤c∧c*by'≤140737488355328∧c≤maxLen)) fun _=>HX st d (.row E (List.replicate l.toNat x)) fun i=> .c (.osl i))
     | none=> .no
   | none=> .no
 | none=> .no
def Up:DC T→Option AC
 | .c (.osl id)=>some id
 | _=>none
theorem KK {c:DC T} {id:AC} (h:Up c=some id):c= .c (.osl id):=by
 unfold Up at h
 split at h
 ·injection h with h;rw [h]
 ·cases h
def wo (st:AB T) (E:Nat):DV T→Option (List (T.den E))
 | .c x=>match Up x with
   | some id=>match OA st id with
     | some ⟨E',l⟩=>Qh false (.lst E) (.k (.lst E') l)
     | none=>none
   | none=>Qh false (.lst E) x
 | _=>none
def cF (P:Program) (st:AB T) (d:Nat) (t:TypeId) (u x:DV T):M (AB T):=
 match u,EC P t with
 | .c (.c (.osl id)),some (E',n,by')=>match OA st id with
   | some ⟨E,l⟩=>match wo st E x with
     | some m=>mIf (Nat.beq E' E&&(Nat.beq n (T.sz E)&&Nat.blt 0 n)) (.opt (app by' l m) fun r=>match st.new id (.row E r)with
       | some s=> .ret (s.put (some d) (.c (.c (.osl id))))
       | none=> .no)
     | none=> .no
   | none=> .no
 | _,_=> .no
def wq (P:Program) (st:AB T) (o:Oper):M (AB T):=
 match o.op with
 | .store t x y=>match st.arg [] x,st.arg [] y with
   | some p,some v=>kx P t o.dst st p (gt y v)
   | _,_=> .no
 | op=>match o.dst with
   | none=> .no
   | some d=>match op with
     | .alloc t=>match cB P t with
       | some cs=>HX st d (.box cs) fun i=> .c (.ptr i 0)
       | none=> .no
     | .box _ x=>match st.arg [] x with
       | some v=>match v.cells with
         | some cs=>HX st d (.box cs) fun i=> .c (.ptr i 0)
         | none=> .no
       | none=> .no
     | .assign (.const (.slice none 0 0))=>match Eo P o.type with
       | some (E,n)=>mIf (Nat.beq n (T.sz E)) (HX st d (.row E []) fun i=> .c (.osl i))
       | none=> .no
     | .buildSlice t len ps=>My P st d t len ps.toList
     | .makeSlice t l c=>match st.arg [] l,st.arg [] c with
       | some (.c (.k (.int _) l)),some (.c (.k (.int _) c))=>Pn P st d t l c
       | _,_=> .no
     | .call c=>match c.callee,c.args.toList,c.argTypes.toList with
       | .builtin .append,[u,x],[t,t']=>match st.arg [] u,st.arg [] x with
         | some a,some b=>mIf (Nat.beq t t') (cF P st d t a b)
         | _,_=> .no
       | _,_,_=> .no
     | _=> .no
def Ef (H:A0 T) (P:Program) (st:AB T) (o:Oper) (st':AB T):Prop:=
 (∃ H',Nx H st H' st')∧(ef P st.toSt o).1∧Cb (ef P st.toSt o).2 st'.toSt∧st'.pre=st.pre
section
variable {H:A0 T} {P:Program} {st:AB T}
theorem AB.put_spec {H:A0 T} {st s:AB T} {H1:A0 T} (h:Nx H st H1 s) (d:Option Nat) {v:DV T} (hv:v.ok H1 s.nx): ∃ H',Nx H st H' (s.put d v):=by
 obtain⟨H2,h2⟩:=AB.put_nx h.ok d hv
 exact⟨H2,h.trans h2⟩
theorem Cc (s:AB T) (d:Option Nat) (v:DV T):(s.put d v).pre =s.pre:=by cases d<;>rfl
theorem Gu {d:Nat} {x:DX T} {v:AC→DC T} (hw:BW H st) (hx:x.ok) (hv: ∀ i,(v i).ok):
 Yl (HX st d x v) (fun st'=>(∃ H',Nx H st H' st')∧Cb ((st.toSt.new (⟨d::st.pre,0,x⟩:DE T).toE).put (some d) (.c (v (d::st.pre)).toC)) st'.toSt∧st'.pre=st.pre):=by
 unfold HX
 split
 ·rename_i s hs
  obtain⟨⟨H',hN⟩,h2,h3⟩:=AB.new_spec hw hx hs
  refine Yl.ret ⟨AB.put_spec hN _ (by simp only [DV.ok];exact hv _),?_,by rw [Cc];exact h3⟩
  rw [AB.put_toSt]
  exact h2.put _ _
 ·exact Yl.no
theorem gw {v:DV T} {id:AC} {off:Nat} {e:AM} (he:st.toSt.look id=some e) (hr:e.row.isSome=true):U5 st.toSt (.c (.ptr id off)) v.toV=(kw v).toV :=by
 unfold kw
 split
 ·simp only [DV.toV,DC.toC,U5,he]
  cases hx:e.row with
  | none=>rw [hx]at hr;cases hr
  | some x=>rfl
 ·rename_i hne
  unfold U5
  split
  ·rename_i hv
   exfalso
   cases v with
   | c x=>
     cases x with
     | c y=>
       simp only [DV.toV,DC.toC,V.c.injEq]at hv
       subst hv;exact hne rfl
     | k kd x=>cases kd<;>simp [DV.toV,DC.toC,Ca]at hv
     | clo b f cs=>cases b<;>simp [DV.toV,DC.toC]at hv
     | _=>simp [DV.toV,DC.toC]at hv
   | _=>simp [DV.toV]at hv
  ·rfl
theorem gx {v:V} {id:AC} {off:Nat} {e:AM} (he:st.toSt.look id=some e) (hr:e.row=none):U5 st.toSt (.c (.ptr id off)) v=v:=by
 unfold U5
 split
 ·simp only [he,hr]
 ·rfl
theorem aA {E:Nat} {x x':T.den E} {off:Nat} {cs:List (DC T)} (h:tT E x off cs=some x'):off+cs.length≤T.sz E∧(T.enc E x).take off++(A2 cs++(T.enc E x).drop (off+(A2 cs).length))=T.enc E x':=by
 unfold tT at h
 split at h
 ·rename_i hb
  refine⟨by simpa using hb,?_⟩
  rw [←(HT h).2 rfl,B4,B4,Hm,EO,HS,Bf]
 ·cases h
theorem ky {l:List C} {a b c:List C} (h:a++(b++c)=l) (hl:AH l=true):AH b=true:=by
 subst h
 rw [BP,BP]at hl
 simp only [Bool.and_eq_true]at hl
 exact hl.2.1
theorem oQ (hw:BW H st) {t:TypeId} {d:Option Nat} {p v:DV T} (hv:v.ok H st.nx):
 Yl (kx P t d st p v) (fun st'=>(∃ H',Nx H st H' st')∧(FF P st.toSt t p.toV (U5 st.toSt p.toV v.toV)).1∧(FF P st.toSt t p.toV (U5 st.toSt p.toV v.toV)).2.put d .undef =st'.toSt∧st'.pre=st.pre):=by
 unfold kx
 split
 ·exact Yl.no
 ·rename_i ag n ht
  split
  ·rename_i id off
   split
   ·rename_i ds cs hb hc
    refine Yl.mIf fun hg=>Yl.ret ?_
    simp only [Bool.and_eq_true,Nat.beq_eq,Nat.ble_eq]at hg
    obtain⟨hl,_,e,h1,h2,h3⟩:=FH hb
    obtain⟨c1,c2⟩:=DV.cells_spec hc
    have hds:=Qj hw hb
    have hok:(DX.box (ds.take off++(cs++ds.drop (off+n)))).ok :=CL (NM hds _) (CL (c2 hv) (NN hds _))
    obtain⟨H1,hN⟩:=AB.setX_nx hw id hok
    refine⟨AB.put_spec hN _ (by simp only [DV.ok]),?_⟩
    simp only [DV.toV,DC.toC]
    rw [gx hl rfl]
    simp only [FF,c1,ht,hl]
    refine⟨⟨by rw [Bf];exact hg.1,by rw [Bf];exact hg.2⟩,?_,by rw [Cc];rfl⟩
    rw [AB.put_toSt,AB.setX_toSt hw h1 h2 (cs:=(A2 ds).take off++A2 cs++(A2 ds).drop (off+(A2 cs).length)) (q:=AH (A2 cs))]
    ·simp only [DV.toV]
    ·rw [DE.toE_box h3]
     simp only [DE.toE,AM.mk.injEq,Bool.false_and,and_true,true_and]
     rw [B4,B4,Hm,EO,List.append_assoc,Bf,hg.1]
   ·exact Yl.no
  ·rename_i id N i off
   split
   ·rename_i E l cs hr hc
    refine Yl.mIf fun hg=>Yl.opt fun x hx=>?_
    simp only [Bool.and_eq_true,Nat.beq_eq]at hg
    obtain⟨hN,hcs⟩:=hg
    subst hN
    split
    ·rename_i x' hp
     obtain⟨p1,p2⟩:=aA hp
     obtain⟨hl,_,e,h1,h2,h3⟩:=DM hr
     obtain⟨c1,c2⟩:=DV.cells_spec hc
     obtain⟨s1,s2⟩:=Mn (l:=l) (l':=l.set i.toNat x') (i:=i) (x:=x) (x':=x') (e:=T.enc E) (N:=T.sz E) (o:=off) (base:=0) (cs:=A2 cs) (pre:=[]) (post:=[]) (off:=i.toNat*T.sz E+off) (c0:=l.flatMap (T.enc E)) (c1:=(l.set i.toNat x').flatMap (T.enc E)) (by simp) rfl (by simp) rfl hx (fun y=>F5 E y) (by omega) (by rw [Bf];exact p1) p2
     obtain⟨H1,hN⟩:=AB.setX_nx hw id (x:= .row E (l.set i.toNat x')) trivial
     refine Yl.ret ⟨AB.put_spec hN _ (by simp only [DV.ok]),?_⟩
     simp only [DV.toV,DC.toC]
     rw [gw hl rfl]
     simp only [FF,c1,ht,hl]
     refine⟨⟨by rw [Bf];exact hcs,by rw [Bf,hcs]at s1;exact s1⟩,?_,by rw [Cc];rfl⟩
     rw [s2,AB.put_toSt,AB.setX_toSt hw h1 h2 (cs:=(l.set i.toNat x').flatMap (T.enc E)) (q:=AH (A2 cs))]
     ·simp only [DV.toV]
     ·rw [DE.toE_row h3]
      have:AH (A2 cs)=true:=ky p2 (WS E x')
      simp only [DE.toE,this,List.length_set,Bool.and_self]
    ·exact Yl.no
   ·exact Yl.no
  ·rename_i id base m E i off
   split
   ·rename_i ds cs hb hc
    split
    ·rename_i l hdr
     refine Yl.mIf fun hg=>Yl.opt fun x hx=>?_
     simp only [Bool.and_eq_true,Nat.beq_eq,Nat.ble_eq]at hg
     split
     ·rename_i x' hp
      obtain⟨p1,p2⟩:=aA hp
      obtain⟨hl,_,e,h1,h2,h3⟩:=FH hb
      obtain⟨c1,c2⟩:=DV.cells_spec hc
      obtain⟨hlen,r,hr⟩:=EP hdr
      rw [EO]at hr
      have hfl:(l.flatMap (T.enc E)).length =m*T.sz E:=by rw [Cg (fun y=>F5 E y),hlen]
      have hpost:r=(A2 ds).drop (base+m*T.sz E):=by
       rw [←List.drop_drop,hr, ←hfl,List.drop_left]
      have hs:Un i.toNat x' 0 l=l.set i.toNat x':=by rw [gu l 0 (Nat.zero_le _)];rfl
      have hle:base≤(A2 ds).length :=by rw [Bf];omega
      obtain⟨s1,s2⟩:=Mn (l:=l) (l':=l.set i.toNat x') (i:=i) (x:=x) (x':=x') (e:=T.enc E) (N:=T.sz E) (o:=off) (base:=base) (cs:=A2 cs) (pre:=(A2 ds).take base) (post:=r) (off:=base+i.toNat*T.sz E+off) (c0:=A2 ds) (c1:=(A2 ds).take base++((l.set i.toNat x').flatMap (T.enc E)++r))
       (by rw [←hr,List.take_append_drop]) (by rw [List.length_take];omega) rfl rfl hx (fun y=>F5 E y) (by omega) (by rw [Bf];exact p1) p2
      have hds:=Qj hw hb
      have hok:(DX.box (ds.take base++(Mx E (Un i.toNat x' 0 l)++ds.drop (base+m*T.sz E)))).ok :=CL (NM hds _) (CL (az _ _) (NN hds _))
      obtain⟨H1,hN⟩:=AB.setX_nx hw id hok
      refine Yl.ret ⟨AB.put_spec hN _ (by simp only [DV.ok]),?_⟩
      simp only [DV.toV,DC.toC]
      rw [gx hl rfl]
      simp only [FF,c1,ht,hl]
      refine⟨⟨by rw [Bf];exact hg.1,by rw [Bf,hg.1]at s1;exact s1⟩,?_,by rw [Cc];rfl⟩
      rw [s2,AB.put_toSt,AB.setX_toSt hw h1 h2 (cs:=(A2 ds).take base++((l.set i.toNat x').flatMap (T.enc E)++r)) (q:=AH (A2 cs))]
      ·simp only [DV.toV]
      ·rw [DE.toE_box h3]
       simp only [DE.toE,AM.mk.injEq,Bool.false_and,and_true,true_and]
       rw [B4,B4,Hm,EO,Uo,hs,hpost]
     ·exact Yl.no
    ·exact Yl.no
   ·exact Yl.no
  ·exact Yl.no
end
end Go.PL
namespace Go.PL
open Go Go.RowKit
variable {T:C6}
section
variable {H:A0 T} {P:Program} {st:AB T}
theorem xT (hw:BW H st) {x:Operand} {v:DV T} (h:st.arg [] x=some v):v.ok H st.nx∧(st.toSt.arg true x).1∧(st.toSt.arg true x).2=v.toV:=
 AB.arg_spec (key:=[]) hw (fun _ hl=>by cases hl) h rfl
theorem Uq {t:TypeId} {cs:List (DC T)} (h:cE P t=some cs):L8 P t=some (A2 cs)∧Cm cs:=by
 unfold cE at h
 unfold L8
 split at h
 ·rename_i i hi
  split at h
  ·rename_i z hz
   simp only [hi,hz]
   exact Mq h
  ·cases h
 ·cases h
theorem Qq {α:Type} (f:α→List (DC T)): ∀ l:List α,A2 (l.flatMap f)=l.flatMap (fun x=>A2 (f x))
 | []=>by simp [A2]
 | a::l=>by rw [List.flatMap_cons,B4,Qq f l,List.flatMap_cons]
theorem kz (z:List (DC T)) (hz:0<z.length) (n:Nat):A2 ((List.replicate n z).flatMap id)=Cl (A2 z) n:=by
 rw [Qq,Sn (fun x:List (DC T)=>A2 x) z rfl (by rw [Bf];exact hz)]
 rfl
theorem Po (c:DC T):(Xb c).toC =Gm c.toC:=by
 unfold Xb
 split
 ·rfl
 ·rename_i hne
  cases c with
  | c x=>
    cases x with
    | nils=>exact(hne rfl).elim
    | _=>rfl
  | k kd x=>cases kd<;>rfl
  | clo b f cs=>cases b<;>simp [DC.toC,Gm]
  | _=>simp [DC.toC,Gm]
theorem kA (v:DV T):(Sw v).toV =v.toV.weak:=by
 cases v with
 | c x=>simp only [Sw,DV.toV,V.weak,Po]
 | agg cs=>
   simp only [Sw,DV.toV,V.weak,CZ,List.map_map]
   congr 1
   exact List.map_congr_left fun c _=>Po c
 | _=>simp only [Sw,DV.toV,V.weak]
theorem ru (vs:List (Nat×DV T)):tQ (vs.map fun x=>(x.1,Sw x.2))=(tQ vs).map TZ:=by
 simp only [tQ,List.map_map]
 refine List.map_congr_left fun x _=>?_
 simp only [Function.comp,TZ,kA]
theorem Xc (hw:BW H st) {d:Nat} {t:TypeId} {len:Nat} {ps:List (Nat×Operand)}:
 Yl (My P st d t len ps) (fun st'=>(∃ H',Nx H st H' st')∧(B3 P st.toSt d t len ps).1∧Cb (B3 P st.toSt d t len ps).2 st'.toSt∧st'.pre=st.pre):=by
 unfold My
 split
 ·rename_i E n by' vs hs hp
  split
  ·rename_i z hz
   split
   ·rename_i cs hf
    split
    ·rename_i l hl
     refine Yl.mIf fun hg=>(Gu hw (x:= .row E l) (by exact trivial) (fun _=>by simp only [DC.ok])).mono fun st' h=>?_
     simp only [Bool.and_eq_true,Nat.beq_eq,Nat.blt_eq,Nat.ble_eq]at hg
     obtain⟨g1,g2,g3,g4,g5⟩:=hg
     subst g1
     obtain⟨h1,h2,h3⟩:=h
     obtain⟨p1,p2,p3⟩:=Mt (key:=[]) hw (fun _ hl=>by cases hl) rfl hp
     obtain⟨z1,z2⟩:=Uq hz
     obtain⟨f1,_⟩:=Pk hf
     rw [kz z (by omega),ru]at f1
     obtain⟨hlen,r,hr⟩:=EP hl
     have hrn:r=[]:=by
      have:=congrArg List.length hr
      rw [Bf,g5,List.length_append,Cg (fun y=>F5 E y),hlen]at this
      exact List.length_eq_zero_iff.1 (by omega)
     subst hrn
     rw [List.append_nil]at hr
     refine⟨h1,?_⟩
     change (st.toSt.parts true ps).1 at p2
     change (st.toSt.parts true ps).2=tQ vs at p3
     simp only [B3,hs,z1,p3,f1]
     refine⟨⟨p2,by rw [Bf];exact g2,g3,g4⟩,?_,h3⟩
     rw [hr,oL]
     simp only [DE.toE,hlen,DC.toC]at h2
     exact h2
    ·exact Yl.no
   ·exact Yl.no
  ·exact Yl.no
 ·exact Yl.no
theorem YO (hw:BW H st) {d:Nat} {t:TypeId} {l c:Int} {k k':IntKind}:
 Yl (Pn P st d t l c) (fun st'=>(∃ H',Nx H st H' st')∧(Mc P st.toSt d t (.c (.int k l)) (.c (.int k' c))).1∧Cb (Mc P st.toSt d t (.c (.int k l)) (.c (.int k' c))).2 st'.toSt∧st'.pre=st.pre):=by
 unfold Pn
 split
 ·rename_i E n by' hs
  split
  ·rename_i z hz
   split
   ·rename_i x hx
    refine Yl.mIf fun hg=>Yl.opt fun u hu=>(Gu hw (x:= .row E (List.replicate l.toNat x)) (by exact trivial) (fun _=>by simp only [DC.ok])).mono fun st' h=>?_
    simp only [Bool.and_eq_true,Nat.beq_eq,Nat.blt_eq]at hg
    obtain⟨g1,g2,g3⟩:=hg
    subst g1
    obtain⟨h1,h2,h3⟩:=h
    obtain⟨z1,z2⟩:=Uq hz
    obtain⟨n1,n2,n3,n4⟩:=Mk hu
    refine⟨h1,?_⟩
    simp only [Mc,hs,z1]
    refine⟨⟨n1,n2,n3,n4,by rw [Bf];exact g2,g3⟩,?_,h3⟩
    have hzx:=(HT hx).2 rfl
    have:=Sn (T.enc E) x hzx (by rw [Bf];omega) l.toNat
    rw [this]
    simp only [DE.toE,List.length_replicate,DC.toC]at h2
    exact h2
   ·exact Yl.no
  ·exact Yl.no
 ·exact Yl.no
theorem oR {E:Nat} {x:DV T} {m:List (T.den E)} (h:wo st E x=some m):P0 st.toSt (T.sz E) x.toV=some (m.length,m.flatMap (T.enc E),true):=by
 have hl: ∀ {E':Nat} {l:List (T.den E')} {m:List (T.den E)},Qh (T:=T) false (.lst E) (.k (.lst E') l)=some m→(C.sl l.length (l.flatMap (T.enc E'))=C.sl m.length (m.flatMap (T.enc E)))∧T.sz E'=T.sz E∧l.length=m.length:=by
  intro E' l m hc
  unfold Qh at hc
  simp only at hc
  split at hc
  ·rename_i e _
   subst e
   injection hc with hc
   subst hc
   exact⟨rfl,rfl,rfl⟩
  ·cases hc
 unfold wo at h
 split at h
 ·rename_i y
  split at h
  ·rename_i id ho
   have:=KK ho
   subst this
   split at h
   ·rename_i E' l hr
    obtain⟨a,b,c⟩:=hl h
    injection a with a1 a2
    simp only [DV.toV,DC.toC,P0,(DM hr).1,b,if_true]
    rw [a1,a2]
   ·cases h
  ·have:=(KI h).2 rfl
   simp only [Ca]at this
   simp only [DV.toV,this,P0]
   rw [if_pos (Cg (fun y=>F5 E y) m)]
 ·cases h
theorem kC (hw:BW H st) {d:Nat} {t:TypeId} {u x:DV T}:
 Yl (cF P st d t u x) (fun st'=>(∃ H',Nx H st H' st')∧(E3 P st.toSt d t u.toV x.toV).1∧Cb (E3 P st.toSt d t u.toV x.toV).2 st'.toSt∧st'.pre=st.pre):=by
 unfold cF
 split
 ·rename_i id E' n by' hs
  split
  ·rename_i E l hr
   split
   ·rename_i m hm
    refine Yl.mIf fun hg=>Yl.opt fun r hra=>?_
    simp only [Bool.and_eq_true,Nat.beq_eq,Nat.blt_eq]at hg
    obtain⟨g1,g2,g3⟩:=hg
    subst g1 g2
    split
    ·rename_i s hn
     obtain⟨⟨H',hN⟩,h2,h3⟩:=AB.new_spec hw (x:= .row E' r) trivial hn
     refine Yl.ret ⟨AB.put_spec hN _ (by simp only [DV.ok,DC.ok]),?_⟩
     have hb:=DL hra
     have hx:=WE hra
     simp only [DV.toV,DC.toC,E3,hs,(DM hr).1,oR hm,true_and]
     refine⟨⟨g3,hb.1,hb.2⟩,?_,by rw [Cc];exact h3⟩
     rw [AB.put_toSt]
     simp only [DE.toE,hx,List.length_append,List.flatMap_append]at h2
     simp only [DV.toV,DC.toC,Bool.and_self]
     exact h2.put _ _
    ·exact Yl.no
   ·exact Yl.no
  ·exact Yl.no
 ·exact Yl.no
theorem tU (hw:BW H st) (o:Oper):Yl (wq P st o) (Ef H P st o):=by
 have A: ∀ {x:Operand} {v:DV T},st.arg [] x=some v→v.ok H st.nx∧(st.toSt.arg true x).1∧(st.toSt.arg true x).2=v.toV:=fun h=>xT hw h
 obtain⟨dst,op,ty,pos,aft,gd⟩:=o
 unfold wq
 simp only
 split
 ·rename_i t x y
  split
  ·rename_i p v hp hv
   obtain⟨a1,a2,a3⟩:=A hp
   obtain⟨b1,b2,b3⟩:=A hv
   have e:(gt y v).toV =jG y v.toV:=by
    unfold gt jG
    split<;>simp_all [DV.toV,DC.toC]
   have hok:(gt y v).ok H st.nx:=by
    unfold gt
    split
    ·simp only [DV.ok,DC.ok]
    ·exact b1
   refine(oQ hw hok).mono fun st' h=>?_
   obtain⟨h1,h2,h3,h4⟩:=h
   refine⟨h1,?_,?_,h4⟩
   ·simp only [PL.ef,a3,b3, ←e];exact⟨a2,b2,h2⟩
   ·simp only [PL.ef,a3,b3, ←e];rw [h3];exact Cb.refl _
  ·exact Yl.no
 ·rename_i hns
  split
  ·exact Yl.no
  ·rename_i d
   split
   ·rename_i t
    split
    ·rename_i cs hz
     obtain⟨z1,z2⟩:=Um hz
     refine(Gu hw (x:= .box cs) z2 (fun _=>by simp only [DC.ok])).mono fun st' h=>?_
     obtain⟨h1,h2,h3⟩:=h
     refine⟨h1,?_,?_,h3⟩
     ·simp only [PL.ef,z1]
     ·simp only [PL.ef,z1];simp only [DE.toE,DC.toC]at h2;exact h2
    ·exact Yl.no
   ·rename_i t x
    split
    ·rename_i v hv
     split
     ·rename_i cs hc
      obtain⟨b1,b2,b3⟩:=A hv
      obtain⟨c1,c2⟩:=DV.cells_spec hc
      refine(Gu hw (x:= .box cs) (c2 b1) (fun _=>by simp only [DC.ok])).mono fun st' h=>?_
      obtain⟨h1,h2,h3⟩:=h
      refine⟨h1,?_,?_,h3⟩
      ·simp only [PL.ef,b3,c1];exact⟨b2,trivial⟩
      ·simp only [PL.ef,b3,c1];simp only [DE.toE,DC.toC]at h2;exact h2
     ·exact Yl.no
    ·exact Yl.no
   ·split
    ·rename_i E n hs
     refine Yl.mIf fun hg=>(Gu hw (x:= .row E []) (by exact trivial) (fun _=>by simp only [DC.ok])).mono fun st' h=>?_
     have hg:=Nat.eq_of_beq_eq_true hg
     subst hg
     obtain⟨h1,h2,h3⟩:=h
     refine⟨h1,?_,?_,h3⟩
     ·simp only [PL.ef,hs]
     ·simp only [PL.ef,hs];simp only [DE.toE,DC.toC,List.length_nil,List.flatMap_nil]at h2;exact h2
    ·exact Yl.no
   ·rename_i t len ps
    refine(Xc hw).mono fun st' h=>?_
    obtain⟨h1,h2,h3,h4⟩:=h
    exact⟨h1,by simpa only [PL.ef] using h2,by simpa only [PL.ef] using h3,h4⟩
   ·rename_i t l c
    split
    ·rename_i k l' k' c' hl hc
     obtain⟨a1,a2,a3⟩:=A hl
     obtain⟨b1,b2,b3⟩:=A hc
     simp only [DV.toV,DC.toC,Ca]at a3 b3
     refine(YO hw (k:=k) (k':=k')).mono fun st' h=>?_
     obtain⟨h1,h2,h3,h4⟩:=h
     refine⟨h1,?_,?_,h4⟩
     ·simp only [PL.ef,a3,b3];exact⟨a2,b2,h2⟩
     ·simp only [PL.ef,a3,b3];exact h3
    ·exact Yl.no
   ·rename_i c
    split
    ·rename_i u x t t' hcal hargs htys
     split
     ·rename_i a b ha hb
      obtain⟨a1,a2,a3⟩:=A ha
      obtain⟨b1,b2,b3⟩:=A hb
      refine Yl.mIf fun hg=>(kC hw).mono fun st' h=>?_
      have hg:=Nat.eq_of_beq_eq_true hg
      obtain⟨h1,h2,h3,h4⟩:=h
      refine⟨h1,?_,?_,h4⟩
      ·simp only [PL.ef,hcal,hargs,htys,a3,b3];exact⟨a2,b2,hg,h2⟩
      ·simp only [PL.ef,hcal,hargs,htys,a3,b3];exact h3
     ·exact Yl.no
    ·exact Yl.no
   ·exact Yl.no
end
end Go.PL
namespace Go.PL
open Go Go.RowKit
variable {T:C6}
inductive VT where
 | k (kd:Kd)
 | s (E:Nat)
 | f (g:FuncId)
def HY (T:C6):VT→Type
 | .k kd=>oK T.den kd
 | .s E=>T.den E
 | .f _=>Unit
def xU (T:C6):(k:Kd)→oK T.den k
 | .int _=>(default:Int)
 | .bool =>(default:Bool)
 | .str =>(default:List UInt8)
 | .lst E=>(default:List (T.den E))
def vj (T:C6):(t:VT)→HY T t
 | .k kd=>xU T kd
 | .s E=>(T.inh E).default
 | .f _=>()
def LF:(t:VT)→HY T t→DV T
 | .k kd,x=> .c (.k kd x)
 | .s E,x=> .agg (km E x)
 | .f g,_=> .c (.c (.fn g))
def IT:(t:VT)→HY T t→V
 | .k kd,x=> .c (Ca T.enc kd x)
 | .s E,x=> .agg (T.enc E x)
 | .f g,_=> .c (.fn g)
theorem NR (t:VT) (x:HY T t):(LF t x).toV =IT t x:=by
 cases t with
 | k kd=>simp only [LF,DV.toV,DC.toC,IT]
 | s E=>exact congrArg V.agg (HS E x)
 | f g=>simp only [LF,DV.toV,DC.toC,IT]
theorem Qr {H:A0 T} {nx:Nat} (t:VT) (x:HY T t):(LF t x).ok H nx:=by
 cases t with
 | k kd=>simp only [LF,DV.ok,DC.ok]
 | s E=>simp only [LF,DV.ok];exact Pi E x
 | f g=>simp only [LF,DV.ok,DC.ok]
def yE:DV T→Option (DC T)
 | .c x=>some x
 | _=>none
def yF:DV T→Option (List (DC T))
 | .agg cs=>some cs
 | _=>none
def kD (kd:Kd) (v:DV T):Option (oK T.den kd):=match yE v with
 | some x=>Qh false kd x
 | none=>none
def castVs' (E:Nat) (v:DV T):Option (T.den E):=match yF v with
 | some cs=>qM false E cs
 | none=>none
def kE (g:FuncId):DV T→Option Unit
 | .c (.c (.fn g'))=>match Nat.beq g' g with
   | true=>some ()
   | false=>none
 | _=>none
def rv:(t:VT)→DV T→Option (HY T t)
 | .k kd,v=>kD kd v
 | .s E,v=>castVs' E v
 | .f g,v=>kE g v
theorem gy {v:DV T} {x:DC T} (h:yE v=some x):v= .c x:=by
 unfold yE at h
 split at h
 ·injection h with h;rw [h]
 ·cases h
theorem gz {v:DV T} {x:List (DC T)} (h:yF v=some x):v= .agg x:=by
 unfold yF at h
 split at h
 ·injection h with h;rw [h]
 ·cases h
theorem tV {kd:Kd} {v:DV T} {x:oK T.den kd} (h:kD kd v=some x):v.toV= .c (Ca T.enc kd x):=by
 unfold kD at h
 split at h
 ·rename_i y hy
  rw [gy hy]
  simp only [DV.toV,(KI h).2 rfl]
 ·cases h
theorem tW {E:Nat} {v:DV T} {x:T.den E} (h:castVs' E v=some x):v.toV= .agg (T.enc E x):=by
 unfold castVs' at h
 split at h
 ·rename_i y hy
  rw [gz hy]
  simp only [DV.toV,(HT h).2 rfl]
 ·cases h
theorem tX {g:FuncId} {v:DV T} {x:Unit} (h:kE g v=some x):v.toV= .c (.fn g):=by
 unfold kE at h
 split at h
 ·split at h
  ·rename_i hb
   have:=Nat.eq_of_beq_eq_true hb
   subst this
   simp only [DV.toV,DC.toC]
  ·cases h
 ·cases h
theorem Xd {t:VT} {v:DV T} {x:HY T t} (h:rv t v=some x):v.toV=IT t x:=by
 cases t with
 | k kd=>exact tV h
 | s E=>exact tW h
 | f g=>exact tX h
def XS (T:C6):List VT→Type
 | []=>Unit
 | t::ts=>HY T t×XS T ts
def GZ:(ts:List VT)→XS T ts→List V
 | [],_=>[]
 | t::ts,x=>IT t x.1::GZ ts x.2
def Sx:(ts:List VT)→List (DV T)→Option (XS T ts)
 | [],[]=>some ()
 | t::ts,v::vs=>match rv t v,Sx ts vs with
   | some x,some y=>some (x,y)
   | _,_=>none
 | _,_=>none
theorem Ur: ∀ {ts:List VT} {vs:List (DV T)} {x:XS T ts},Sx ts vs=some x→Bx vs=GZ ts x
 | [],[],x,_=>by simp only [Bx,GZ]
 | [],_::_,_,h=>by simp [Sx]at h
 | _::_,[],_,h=>by simp [Sx]at h
 | t::ts,v::vs,x,h=>by
   unfold Sx at h
   split at h
   ·rename_i a b h1 h2
    injection h with h;subst h
    simp only [Bx,GZ,Xd h1,Ur h2]
   ·cases h
def RT (T:C6):List VT→Type
 | []=>Unit
 | [t]=>HY T t
 | t::u::ts=>HY T t×RT T (u::ts)
def vk (T:C6):(ts:List VT)→RT T ts
 | []=>()
 | [t]=>vj T t
 | t::u::ts=>(vj T t,vk T (u::ts))
instance (ts:List VT):Inhabited (RT T ts):=⟨vk T ts⟩
def Cq:(ts:List VT)→RT T ts→List (DV T)
 | [],_=>[]
 | [t],x=>[LF t x]
 | t::u::ts,x=>LF t x.1::Cq (u::ts) x.2
def Sy:(ts:List VT)→RT T ts→DV T
 | [],_=> .tup []
 | [t],x=>LF t x
 | t::u::ts,x=> .tup (Cq (t::u::ts) x)
def DO:(ts:List VT)→RT T ts→List V
 | [],_=>[]
 | [t],x=>[IT t x]
 | t::u::ts,x=>IT t x.1::DO (u::ts) x.2
def Jq:(ts:List VT)→RT T ts→V
 | [],_=> .tup []
 | [t],x=>IT t x
 | t::u::ts,x=> .tup (DO (t::u::ts) x)
theorem Xe: ∀ (ts:List VT) (x:RT T ts),Bx (Cq ts x)=DO ts x
 | [],_=>by simp only [Cq,Bx,DO]
 | [t],x=>congrArg (fun z=>[z]) (NR t x)
 | t::u::ts,x=>by simp only [Cq,Bx,DO,NR,Xe (u::ts)]
theorem Mz: ∀ (ts:List VT) (x:RT T ts),(Sy ts x).toV =Jq ts x
 | [],_=>by simp only [Sy,DV.toV,Jq,Bx]
 | [t],x=>NR t x
 | t::u::ts,x=>by simp only [Sy,DV.toV,Jq,Xe]
theorem Sz {H:A0 T} {nx:Nat}: ∀ (ts:List VT) (x:RT T ts),Dk H nx (Cq ts x)
 | [],_=>by simp only [Cq,Dk]
 | [t],x=>by simp only [Cq,Dk,and_true];exact Qr t x
 | t::u::ts,x=>by simp only [Cq,Dk,Qr,Sz (u::ts),and_self]
theorem NS {H:A0 T} {nx:Nat}: ∀ (ts:List VT) (x:RT T ts),(Sy ts x).ok H nx
 | [],_=>by simp only [Sy,DV.ok,Dk]
 | [t],x=>Qr t x
 | t::u::ts,x=>by simp only [Sy,DV.ok];exact Sz _ _
def cG:Kd→Bool
 | .lst _=>false
 | _=>true
def SA (T:C6):VT→Bool
 | .k kd=>cG kd
 | .s E=>(T.ks E).all cG
 | .f _=>true
theorem Xf {den:Nat→Type} {enc: ∀ E,den E→List C}: ∀ (ks:List Kd) (y:DK den ks),(FB enc ks y).all C.flat=ks.all cG
 | [],_=>rfl
 | k::ks,y=>by
   simp only [FB,List.all_cons,Xf ks]
   cases k<;>rfl
theorem Pp (t:VT) (x:HY T t):(IT t x).flat =SA T t:=by
 cases t with
 | k kd=>cases kd<;>rfl
 | s E=>
   show (T.enc E (show T.den E from x)).all C.flat=(T.ks E).all cG
   rw [←T.encok,Xf]
 | f g=>rfl
theorem Us: ∀ (ts:List VT) (x:RT T ts),Jo (DO ts x)=ts.all (SA T)
 | [],_=>by simp [DO,Jo]
 | [t],x=>by simp only [DO,Jo,List.all_cons,List.all_nil,Bool.and_true];exact Pp t x
 | t::u::ts,x=>by simp only [DO,Jo,Pp,Us (u::ts),List.all_cons]
theorem JZ: ∀ (ts:List VT) (x:RT T ts),(Jq ts x).flat =ts.all (SA T)
 | [],_=>by simp [Jq,V.flat,Jo]
 | [t],x=>by simp only [Jq,List.all_cons,List.all_nil,Bool.and_true];exact Pp t x
 | t::u::ts,x=>by simp only [Jq,V.flat,Us]
structure CE (T:C6) (P:Program) (I:World→Prop) where
 f:FuncId
 ps:List VT
 rs:List VT
 run:XS T ps→Option (RT T rs)
 ok: ∀ x r,run x=some r→AQ P I f (GZ ps x) (· =Jq rs r)
def SB {P:Program} {I:World→Prop} (f:FuncId) (ws:List (DV T)):List (CE T P I)→Option ((e:CE T P I)×XS T e.ps)
 | []=>none
 | e::r=>match Nat.beq e.f f with
   | true=>match Sx e.ps ws with
     | some x=>some ⟨e,x⟩
     | none=>SB f ws r
   | false=>SB f ws r
theorem Gv {P:Program} {I:World→Prop} {f:FuncId} {ws:List (DV T)}: ∀ {l:List (CE T P I)} {e:CE T P I} {x:XS T e.ps},SB f ws l=some ⟨e,x⟩→e.f=f∧Bx ws=GZ e.ps x
 | [],_,_,h=>by cases h
 | a::r,e,x,h=>by
   unfold SB at h
   split at h
   ·rename_i hb
    split at h
    ·rename_i y hy
     injection h with h
     injection h with h1 h2
     subst h1
     have h2:=eq_of_heq h2
     subst h2
     exact⟨Nat.eq_of_beq_eq_true hb,Ur hy⟩
    ·exact Gv h
   ·exact Gv h
def cH (st:AB T) (c:DC T):Option (DC T):=match Up c with
 | some id=>match OA st id with
   | some ⟨E,l⟩=>some (.k (.lst E) l)
   | none=>none
 | none=>some (Xb c)
def Xg (st:AB T):List (DC T)→Option (List (DC T))
 | []=>some []
 | c::cs=>match cH st c,Xg st cs with
   | some d,some ds=>some (d::ds)
   | _,_=>none
def cI (st:AB T):DV T→Option (DV T)
 | .c x=>match cH st x with
   | some y=>some (.c y)
   | none=>none
 | .agg cs=>match Xg st cs with
   | some ds=>some (.agg ds)
   | none=>none
 | _=>none
def NT (st:AB T):List (DV T)→Option (List (DV T))
 | []=>some []
 | v::vs=>match cI st v,NT st vs with
   | some d,some ds=>some (d::ds)
   | _,_=>none
def ny (c:DC T):List AC:=match Up c with
 | some id=>[id]
 | none=>[]
def aD:List (DC T)→List AC
 | []=>[]
 | c::cs=>ny c++aD cs
def aE:DV T→List AC
 | .c x=>ny x
 | .agg cs=>aD cs
 | _=>[]
def Xh:List (DV T)→List AC
 | []=>[]
 | v::vs=>aE v++Xh vs
theorem Pq {c:DC T} (h:Up c=none): ∀ id,c.toC ≠ .osl id:=fun i he=>by
 cases c with
 | c x=>simp only [DC.toC]at he;subst he;simp [Up]at h
 | k kd x=>cases kd<;>simp [DC.toC,Ca]at he
 | ip=>simp [DC.toC]at he
 | rp=>simp [DC.toC]at he
 | ap=>simp [DC.toC]at he
 | clo b f cs=>cases b<;>simp [DC.toC]at he
theorem Ut {st:AB T} {c d:DC T} (h:cH st c=some d):IM st.toSt c.toC=d.toC:=by
 unfold cH at h
 split at h
 ·rename_i id ho
  have:=KK ho
  subst this
  split at h
  ·rename_i E l hr
   injection h with h;subst h
   simp only [DC.toC,IM,(DM hr).1,Ca,if_true]
  ·cases h
 ·rename_i ho
  injection h with h;subst h
  rw [Po]
  have:=Pq ho
  cases hc:c.toC<;>simp only [IM,Gm]
  exact(this _ hc).elim
theorem Uu {st:AB T}: ∀ {cs ds:List (DC T)},Xg st cs=some ds→(A2 cs).map (IM st.toSt)=A2 ds
 | [],ds,h=>by simp [Xg]at h;subst h;simp [A2]
 | c::cs,ds,h=>by
   unfold Xg at h
   split at h
   ·rename_i d ds' h1 h2
    injection h with h;subst h
    simp only [A2,List.map_cons,Ut h1,Uu h2]
   ·cases h
theorem Uv {st:AB T} {v w:DV T} (h:cI st v=some w):BM st.toSt v.toV=w.toV:=by
 unfold cI at h
 split at h
 ·split at h
  ·rename_i y hy
   injection h with h;subst h
   simp only [DV.toV,BM,Ut hy]
  ·cases h
 ·split at h
  ·rename_i y hy
   injection h with h;subst h
   simp only [DV.toV,BM,Uu hy]
  ·cases h
 ·cases h
theorem G7 {st:AB T}: ∀ {vs ws:List (DV T)},NT st vs=some ws→(Bx vs).map (BM st.toSt)=Bx ws
 | [],ws,h=>by simp [NT]at h;subst h;simp [Bx]
 | v::vs,ws,h=>by
   unfold NT at h
   split at h
   ·rename_i d ds' h1 h2
    injection h with h;subst h
    simp only [Bx,List.map_cons,Uv h1,G7 h2]
   ·cases h
theorem Xi (c:DC T):P3 c.toC=ny c:=by
 unfold ny
 split
 ·rename_i id ho
  rw [KK ho]
  simp only [DC.toC,P3]
 ·rename_i ho
  have:=Pq ho
  cases hc:c.toC<;>simp only [P3]
  exact(this _ hc).elim
theorem Xj: ∀ cs:List (DC T),(A2 cs).flatMap P3=aD cs
 | []=>by simp [A2,aD]
 | c::cs=>by simp only [A2,List.flatMap_cons,Xi,Xj cs,aD]
theorem kF (v:DV T):jH v.toV=aE v:=by
 cases v with
 | c x=>simp only [DV.toV,jH,aE,Xi]
 | agg cs=>simp only [DV.toV,jH,aE,Xj]
 | _=>simp only [DV.toV,jH,aE]
theorem FI: ∀ vs:List (DV T),CH (Bx vs)=Xh vs
 | []=>by simp [Bx,CH,Xh]
 | v::vs=>by
   have:=FI vs
   simp only [CH]at this ⊢
   simp only [Bx,List.flatMap_cons,kF,this,Xh]
theorem KL (t:VT) (x:HY T t):(IT t x).pure =true:=by
 cases t with
 | k kd=>simp only [IT,V.pure];exact WQ kd x
 | s E=>simp only [IT,V.pure];exact WS E x
 | f g=>rfl
theorem KM: ∀ (ts:List VT) (x:XS T ts),Ce (GZ ts x)=true
 | [],_=>by simp only [GZ,Ce]
 | t::ts,x=>by simp only [GZ,Ce,KL,KM ts,Bool.and_self]
theorem AB.arg_val {st:AB T} {key:List GL} {x:Operand} {v:DV T} (h:st.arg key x=some v) (g:Bool):(st.toSt.arg g x).2=v.toV:=by
 have e:=st.ev_toSt x
 unfold AB.arg at h
 unfold St.arg
 split at h
 ·rename_i k v' hx
  split at h
  ·injection h with h;subst h
   rw [hx]at e
   simp only [DV.toV]at e
   rw [e]
  ·cases h
 ·rename_i hne
  injection h with h;subst h
  rw [e]
  cases hv:st.ev x with
  | g k v=>exact(hne k v hv).elim
  | _=>simp only [DV.toV]
theorem SC {st:AB T} {key:List GL} (g:Bool): ∀ {xs:List Operand} {vs:List (DV T)},IS st key xs=some vs→(st.toSt.args g xs).2=Bx vs
 | [],vs,h=>by simp [IS]at h;subst h;simp [St.args,Bx]
 | x::xs,vs,h=>by
   unfold IS at h
   split at h
   ·rename_i v vs' h1 h2
    injection h with h;subst h
    simp only [St.args,Bx,AB.arg_val h1 g,SC g h2]
   ·cases h
def aI {P:Program} {I:World→Prop} (Γ:List (CE T P I)) (key:List GL) (st:AB T) (f:FuncId) (xs:List Operand) (d:Option Nat):M (AB T):=
 match IS st key xs with
 | some vs=>match NT st vs with
   | some ws=>match SB f ws Γ with
     | some ⟨e,x⟩=> .opt (gk key (e.run x)) fun r=>match key with
       | []=>match e.rs.all (SA T)with
         | true=> .ret (st.put d (Sy e.rs r))
         | false=>match Xh vs with
           | []=> .ret (st.put d (Sy e.rs r))
           | [id]=>match st.frz id with
             | some s=> .ret (s.put d (Sy e.rs r))
             | none=> .no
           | _=> .no
       | l::ls=>match e.rs.all (SA T),Xh vs with
         | true,_=> .ret (st.put d (.g (l::ls) (Sy e.rs r)))
         | false,[]=> .ret (st.put d (.g (l::ls) (Sy e.rs r)))
         | _,_=> .no
     | none=> .no
   | none=> .no
 | none=> .no
def wt (H:A0 T) (P:Program) (I:World→Prop) (ops:Array Oper) (st:AB T) (o:Oper) (st':AB T):Prop:=
 (∃ H',Nx H st H' st')∧st'.pre=st.pre∧ ∀ K:St→Prop,K st'.toSt→mS P I ops o st.toSt K
section
variable {H:A0 T} {P:Program} {I:World→Prop} {Γ:List (CE T P I)} {st:AB T}
theorem oS (hw:BW H st) {f:FuncId} {xs:List Operand} {o:Oper} (hk:Cf o.op= .call f xs):
 Yl (aI Γ [] st f xs o.dst) (fun st'=>(∃ H',Nx H st H' st')∧st'.pre=st.pre∧ ∀ K:St→Prop,K st'.toSt→og P I o st.toSt K):=by
 unfold aI
 split
 ·rename_i vs hvs
  split
  ·rename_i ws hws
   split
   ·rename_i e x hx
    obtain⟨he,hx⟩:=Gv hx
    refine Yl.opt fun r hr=>?_
    obtain⟨a1,a2,a3⟩:=Da (key:=[]) hw (fun _ hl=>by cases hl) rfl hvs
    change (st.toSt.args true xs).1 at a2
    change (st.toSt.args true xs).2=Bx vs at a3
    have hp:=e.ok x r (WO hr rfl)
    rw [he]at hp
    have hs:(Bx vs).map (BM st.toSt)=GZ e.ps x:=by rw [G7 hws,hx]
    have base: ∀ st':AB T,((Jq e.rs r).flat =true∨(CH (Bx vs)).length ≤1∧ ∀ id∈CH (Bx vs),st.toSt.okFrz id=true)→st'.toSt=st.toSt.after (CH (Bx vs)) o.dst (Jq e.rs r)→ ∀ K:St→Prop,K st'.toSt→og P I o st.toSt K:=by
     intro st' h1 h2 K hK
     refine .inr ?_
     rw [hk]
     simp only
     rw [a3,hs]
     refine⟨a2,KM _ _,_,hp,fun r' hr'=>?_⟩
     subst hr'
     exact⟨h1,by rw [←h2];exact hK⟩
    simp only
    split
    ·rename_i hf
     refine Yl.ret ⟨AB.put_nx hw _ (NS _ _),Cc _ _ _,base _ (.inl (by rw [JZ];exact hf)) ?_⟩
     rw [AB.put_toSt,Mz]
     unfold St.after
     rw [if_pos (by rw [JZ];exact hf)]
    ·rename_i hf
     have hnf: ¬(Jq e.rs r).flat =true:=by rw [JZ,hf];simp
     split
     ·rename_i ht
      refine Yl.ret ⟨AB.put_nx hw _ (NS _ _),Cc _ _ _,base _ (.inr (by rw [FI,ht];simp)) ?_⟩
      rw [AB.put_toSt,Mz,FI,ht]
      unfold St.after
      rw [if_neg hnf]
     ·rename_i id ht
      split
      ·rename_i s hs'
       obtain⟨⟨H1,hN⟩,h2,h3,h4⟩:=AB.frz_spec hw hs'
       refine Yl.ret ⟨AB.put_spec hN _ (NS _ _),by rw [Cc];exact h4,base _ (.inr (by rw [FI,ht];simpa using h3)) ?_⟩
       rw [AB.put_toSt,Mz,FI,ht,h2]
       unfold St.after
       rw [if_neg hnf]
      ·exact Yl.no
     ·exact Yl.no
   ·exact Yl.no
  ·exact Yl.no
 ·exact Yl.no
theorem J0 {H:A0 T} {st:AB T} {key:List GL} (hw:BW H st) (hk:FC H st.nx key) (d:Option Nat) {v:DV T} (hv:Br key=true→v.ok H st.nx): ∃ H',Nx H st H' (st.put d (.g key v)):=
 AB.put_nx hw d (by simp only [DV.ok];exact⟨hk,hv⟩)
theorem oT (hw:BW H st) {f:FuncId} {xs:List Operand} {o:Oper} {key:List GL} (hk:Cf o.op= .call f xs) (hkey:FC H st.nx key) (hne:key ≠ []):
 Yl (aI Γ key st f xs o.dst) (fun st'=>(∃ H',Nx H st H' st')∧st'.pre=st.pre∧ ∀ K:St→Prop,K st'.toSt→vt P I o st.toSt (Br key) K):=by
 unfold aI
 split
 ·rename_i vs hvs
  split
  ·rename_i ws hws
   split
   ·rename_i e x hx
    obtain⟨he,hx⟩:=Gv hx
    refine Yl.opt fun r hr=>?_
    have hs:(Bx vs).map (BM st.toSt)=GZ e.ps x:=by rw [G7 hws,hx]
    have base:((Jq e.rs r).flat =true∨Xh vs=[])→ ∀ K:St→Prop,K (st.put o.dst (.g key (Sy e.rs r))).toSt →vt P I o st.toSt (Br key) K:=by
     intro h1 K hK
     refine .inr ?_
     rw [hk]
     simp only
     rw [SC _ hvs,hs,FI]
     rw [AB.put_toSt]at hK
     refine⟨fun hc=>?_,Jq e.rs r,h1,fun hc=>?_,by simpa only [DV.toV,Mz] using hK⟩
     ·obtain⟨a1,a2,a3⟩:=Da hw hkey hc hvs
      exact⟨a2,KM _ _⟩
     ·have hp:=e.ok x r (WO hr hc)
      rw [he]at hp
      exact hp
    split
    ·exact absurd rfl hne
    ·rename_i l ls
     split
     ·rename_i hf
      exact Yl.ret ⟨J0 hw hkey _ (fun _=>NS _ _),Cc _ _ _,base (.inl (by rw [JZ];exact hf))⟩
     ·rename_i hf ht
      exact Yl.ret ⟨J0 hw hkey _ (fun _=>NS _ _),Cc _ _ _,base (.inr ht)⟩
     ·exact Yl.no
   ·exact Yl.no
  ·exact Yl.no
 ·exact Yl.no
end
end Go.PL
namespace Go.PL
open Go Go.RowKit
variable {T:C6}
def wu (n:Nat) (want b:Bool):GL:=⟨n,want,b==want⟩
def cJ (st:AB T) (ops:Array Oper) (j:Nat) (want:Bool):Option (List GL):=
 match ops[j]? with
 | some p=>match p.dst with
   | some t=>match WU st (.tmp t),st.get t with
     | n+1, .c (.k .bool b)=>some [wu n want b]
     | n+1, .g k (.c (.k .bool b))=>some (wu n want b::k)
     | _,_=>none
   | none=>none
 | none=>none
theorem Uw {H:A0 T} {st:AB T} {ops:Array Oper} {j:Nat} {want:Bool} {key:List GL} (hw:BW H st) (h:cJ st ops j want=some key):G4 st.toSt ops j want=some (Br key)∧FC H st.nx key∧key ≠ []:=by
 unfold cJ at h
 unfold G4
 split at h
 ·rename_i p hp
  split at h
  ·rename_i t ht
   simp only [hp,ht]
   have hg:=st.get_toSt t
   have hok:=AB.get_ok hw t
   have tg: ∀ n,WU st (.tmp t)=n+1→n<st.nx∧H.v n=st.get t:=by
    intro n hn
    unfold WU at hn
    simp only at hn
    split at hn
    ·rename_i hb
     have:=cA hw.tm hn
     unfold AB.get;rw [hb];exact this
    ·cases hn
   split at h
   ·rename_i n b hn hv
    injection h with h;subst h
    obtain⟨q1,q2⟩:=tg n hn
    rw [hv]at hg
    refine⟨by rw [hg];rfl,fun l hl=>?_,by simp⟩
    simp only [List.mem_singleton]at hl
    subst hl
    exact⟨q1,by show (_==_)=(cz (H.v n)==_);rw [q2,hv];rfl⟩
   ·rename_i n k b hn hv
    injection h with h;subst h
    obtain⟨q1,q2⟩:=tg n hn
    rw [hv]at hg hok
    simp only [DV.ok]at hok
    refine⟨?_,fun l hl=>?_,by simp⟩
    ·rw [hg]
     simp only [DV.toV,DC.toC,Ca]
     cases k with
     | nil=>simp [Br,wu]
     | cons a r=>rfl
    ·rcases List.mem_cons.1 hl with rfl | hl
     ·exact⟨q1,by show (_==_)=(cz (H.v n)==_);rw [q2,hv];rfl⟩
     ·exact hok.1 l hl
   ·cases h
  ·cases h
 ·cases h
def xV:DV T→Option AC
 | .c x=>Up x
 | _=>none
def yG {P:Program} {I:World→Prop} (Γ:List (CE T P I)) (ops:Array Oper) (o:Oper) (st:AB T):M (AB T):=
 match o.guard with
 | none=>match Cf o.op with
   | .rd => .bnd (Ms P [] st o.op) fun v=> .ret (st.put o.dst v)
   | .ef =>wq P st o
   | .call f xs=>aI Γ [] st f xs o.dst
   | .cut x=>match st.arg [] x with
     | some u=>match xV u with
       | some id=>match st.frz id with
         | some s=> .bnd (Ms P [] s o.op) fun v=> .ret (s.put o.dst v)
         | none=> .no
       | none=> .bnd (Ms P [] st o.op) fun v=> .ret (st.put o.dst v)
     | none=> .no
   | .no => .no
 | some (j,want)=>match cJ st ops j want with
   | some key=>match Cf o.op with
     | .rd => .bnd (Ms P key st o.op) fun v=> .ret (st.put o.dst (.g key v))
     | .call f xs=>aI Γ key st f xs o.dst
     | _=> .no
   | none=> .no
section
variable {H:A0 T} {P:Program} {I:World→Prop} {Γ:List (CE T P I)} {st:AB T} {ops:Array Oper}
theorem SD (H:A0 T) (n:Nat):FC H n []:=fun _ hl=>by cases hl
theorem J1 (hw:BW H st) {o:Oper} {Φ:AB T→Prop} (h: ∀ v:DV T,v.ok H st.nx→(En P st.toSt true o.op).1→(En P st.toSt true o.op).2=v.toV→Φ (st.put o.dst v)):Yl (M.bnd (Ms P [] st o.op) fun v=> .ret (st.put o.dst v)) Φ:=
 Yl.bnd (Qn hw (SD _ _) o.op) fun v hv=>by
  obtain⟨a,b,c⟩:=hv rfl
  exact Yl.ret (h v a b c)
theorem rx (hw:BW H st) (o:Oper):Yl (yG Γ ops o st) (wt H P I ops st o):=by
 unfold yG
 split
 ·rename_i hg
  have W: ∀ {st':AB T},((∃ H',Nx H st H' st')∧st'.pre=st.pre∧ ∀ K:St→Prop,K st'.toSt→og P I o st.toSt K)→wt H P I ops st o st':=fun⟨a,b,c⟩=>⟨a,b,fun K hK=>by unfold mS;rw [hg];exact c K hK⟩
  split
  ·rename_i hk
   refine J1 hw fun v hv h1 h2=>W ⟨AB.put_nx hw _ hv,Cc _ _ _,fun K hK=> .inr ?_⟩
   rw [hk]
   refine⟨h1,?_⟩
   rw [h2, ←AB.put_toSt];exact hK
  ·rename_i hk
   refine(tU hw o).mono fun st' h=>?_
   obtain⟨h1,h2,h3,h4⟩:=h
   refine W ⟨h1,h4,fun K hK=> .inl fun F a w G Q hI hR=>?_⟩
   obtain⟨nx,w',G',q1,q2⟩:=(fd hR h2).out
   unfold Oper.wp Oper.upon
   rw [q1]
   rcases q2 with ⟨v,rfl,q3⟩ | ⟨rfl,q3⟩
   ·exact⟨_,G',hK,q3.less h3⟩
   ·exact⟨_,G',hK,q3.less h3⟩
  ·rename_i f xs hk
   exact(oS hw hk).mono fun st' h=>W h
  ·rename_i x hk
   split
   ·rename_i u hx
    obtain⟨a1,a2,a3⟩:=xT hw hx
    split
    ·rename_i id ho
     have hu:u= .c (.c (.osl id)):=by
      unfold xV at ho
      split at ho
      ·rw [KK ho]
      ·cases ho
     split
     ·rename_i s hs
      obtain⟨⟨H1,hN⟩,h2,h3,h4⟩:=AB.frz_spec hw hs
      have hcut:st.toSt.cutAt true x=s.toSt:=by
       unfold St.cutAt
       rw [a3,hu]
       simp only [DV.toV,DC.toC]
       exact h2.symm
      refine J1 hN.ok fun v hv q1 q2=>W ⟨AB.put_spec hN _ hv,by rw [Cc];exact h4,fun K hK=> .inr ?_⟩
      rw [hk]
      simp only
      rw [hcut]
      exact⟨q1,by rw [q2, ←AB.put_toSt];exact hK⟩
     ·exact Yl.no
    ·rename_i ho
     have hcut:st.toSt.cutAt true x=st.toSt:=by
      unfold St.cutAt
      rw [a3]
      split
      ·rename_i id he
       exfalso
       cases u with
       | c y=>
         simp only [DV.toV,V.c.injEq]at he
         exact Pq ho id he
       | _=>simp [DV.toV]at he
      ·rfl
     refine J1 hw fun v hv q1 q2=>W ⟨AB.put_nx hw _ hv,Cc _ _ _,fun K hK=> .inr ?_⟩
     rw [hk]
     simp only
     rw [hcut]
     exact⟨q1,by rw [q2, ←AB.put_toSt];exact hK⟩
   ·exact Yl.no
  ·exact Yl.no
 ·rename_i j want hg
  split
  ·rename_i key hkey
   obtain⟨g1,g2,g3⟩:=Uw hw hkey
   have W: ∀ {st':AB T},((∃ H',Nx H st H' st')∧st'.pre=st.pre∧ ∀ K:St→Prop,K st'.toSt→vt P I o st.toSt (Br key) K)→wt H P I ops st o st':=fun⟨a,b,c⟩=>⟨a,b,fun K hK=>by unfold mS;rw [hg];simp only [g1];exact c K hK⟩
   split
   ·rename_i hk
    refine Yl.bnd (Qn hw g2 o.op) fun v hv=>Yl.ret (W ⟨J0 hw g2 _ (fun hc=>(hv hc).1),Cc _ _ _,fun K hK=> .inr ?_⟩)
    rw [hk]
    refine⟨v.toV,fun hc=>(hv hc).2,?_⟩
    rw [AB.put_toSt]at hK
    simpa only [DV.toV] using hK
   ·rename_i f xs hk
    exact(oT hw hk g2 g3).mono fun st' h=>W h
   ·exact Yl.no
  ·exact Yl.no
def xW {P:Program} {I:World→Prop} (Γ:List (CE T P I)) (ops:Array Oper):List Oper→AB T→M (AB T)
 | [],st=> .ret st
 | o::rest,st=> .bnd (yG Γ ops o st) fun st'=>xW Γ ops rest st'
theorem tY: ∀ (l:List Oper) (st:AB T) (H:A0 T),BW H st→Yl (xW Γ ops l st) (fun st'=>(∃ H',Nx H st H' st')∧st'.pre=st.pre∧ ∀ K:St→Prop,K st'.toSt→CI P I ops l st.toSt K)
 | [],st,H,hw=>Yl.ret ⟨⟨H,Nx.refl hw⟩,rfl,fun _ hK=>hK⟩
 | o::rest,st,H,hw=>Yl.bnd (rx hw o) fun s hs=>by
   obtain⟨⟨H1,h1⟩,h2,h3⟩:=hs
   refine(tY rest s H1 h1.ok).mono fun s' hs'=>?_
   obtain⟨⟨H2,k1⟩,k2,k3⟩:=hs'
   exact⟨⟨H2,h1.trans k1⟩,k2.trans h2,fun K hK=>h3 _ (k3 K hK)⟩
def cK {P:Program} {I:World→Prop} (Γ:List (CE T P I)) (key:List GL) (st:AB T) (f:FuncId) (xs:List Operand):M (DV T):=
 match IS st key xs with
 | some vs=>match NT st vs with
   | some ws=>match SB f ws Γ with
     | some ⟨e,x⟩=>mIf (e.rs.all (SA T)) (.opt (gk key (e.run x)) fun r=> .ret (Sy e.rs r))
     | none=> .no
   | none=> .no
 | none=> .no
def wv {P:Program} {I:World→Prop} (Γ:List (CE T P I)) (ops:Array Oper) (o:Oper) (st:AB T):M (AB T):=
 match o.guard with
 | none=>match Cf o.op with
   | .rd => .bnd (Ms P [] st o.op) fun v=> .ret (st.put o.dst v)
   | .call f xs=> .bnd (cK Γ [] st f xs) fun v=> .ret (st.put o.dst v)
   | .cut _=> .bnd (Ms P [] st o.op) fun v=> .ret (st.put o.dst v)
   | _=> .no
 | some (j,want)=>match cJ st ops j want with
   | some key=>match Cf o.op with
     | .rd => .bnd (Ms P key st o.op) fun v=> .ret (st.put o.dst (.g key v))
     | .call f xs=> .bnd (cK Γ key st f xs) fun v=> .ret (st.put o.dst (.g key v))
     | .cut _=> .bnd (Ms P key st o.op) fun v=> .ret (st.put o.dst (.g key v))
     | _=> .no
   | none=> .no
theorem aJ {key:List GL} (hw:BW H st) (hk:FC H st.nx key) {f:FuncId} {xs:List Operand}:
 Yl (cK Γ key st f xs) (fun v=>(∀ n,v.ok H n)∧v.toV.flat=true∧(Br key=true→(st.toSt.args (Br key) xs).1∧Ce ((st.toSt.args (Br key) xs).2.map (BM st.toSt))=true)∧(Br key=true→AQ P I f ((st.toSt.args (Br key) xs).2.map (BM st.toSt)) (· =v.toV))):=by
 unfold cK
 split
 ·rename_i vs hvs
  split
  ·rename_i ws hws
   split
   ·rename_i e x hx
    obtain⟨he,hx⟩:=Gv hx
    refine Yl.mIf fun hf=>Yl.opt fun r hr=>Yl.ret ?_
    have hs:(Bx vs).map (BM st.toSt)=GZ e.ps x:=by rw [G7 hws,hx]
    rw [SC _ hvs,hs,Mz]
    refine⟨fun n=>NS _ _,by rw [JZ];exact hf,fun hc=>⟨(Da hw hk hc hvs).2.1,KM _ _⟩,fun hc=>?_⟩
    have hp:=e.ok x r (WO hr hc)
    rw [he]at hp
    exact hp
   ·exact Yl.no
  ·exact Yl.no
 ·exact Yl.no
theorem tZ (hw:BW H st) (o:Oper):Yl (wv Γ ops o st) (fun st'=>(∃ H',Nx H st H' st')∧st'.pre=st.pre∧ ∀ K:St→Prop,K st'.toSt→vw P I ops o st.toSt K):=by
 unfold wv
 split
 ·rename_i hg
  have W: ∀ {st':AB T},((∃ H',Nx H st H' st')∧st'.pre=st.pre∧ ∀ K:St→Prop,K st'.toSt→vu P I o st.toSt K)→(∃ H',Nx H st H' st')∧st'.pre=st.pre∧ ∀ K:St→Prop,K st'.toSt→vw P I ops o st.toSt K:=fun⟨a,b,c⟩=>⟨a,b,fun K hK=>by unfold vw;rw [hg];exact c K hK⟩
  split
  ·rename_i hk
   refine J1 hw fun v hv h1 h2=>W ⟨AB.put_nx hw _ hv,Cc _ _ _,fun K hK=>?_⟩
   unfold vu
   rw [hk]
   exact⟨h1,by rw [h2, ←AB.put_toSt];exact hK⟩
  ·rename_i f xs hk
   refine Yl.bnd (aJ hw (SD _ _)) fun v hv=>Yl.ret (W ⟨AB.put_nx hw _ (hv.1 _),Cc _ _ _,fun K hK=>?_⟩)
   obtain⟨q1,q2,q3,q4⟩:=hv
   unfold vu
   rw [hk]
   exact⟨(q3 rfl).1,(q3 rfl).2,v.toV,q2,q4 rfl,by rw [←AB.put_toSt];exact hK⟩
  ·rename_i x hk
   refine J1 hw fun v hv h1 h2=>W ⟨AB.put_nx hw _ hv,Cc _ _ _,fun K hK=>?_⟩
   unfold vu
   rw [hk]
   exact⟨h1,by rw [h2, ←AB.put_toSt];exact hK⟩
  ·exact Yl.no
 ·rename_i j want hg
  split
  ·rename_i key hkey
   obtain⟨g1,g2,g3⟩:=Uw hw hkey
   have W: ∀ {st':AB T},((∃ H',Nx H st H' st')∧st'.pre=st.pre∧ ∀ K:St→Prop,K st'.toSt→vv P I o st.toSt (Br key) K)→(∃ H',Nx H st H' st')∧st'.pre=st.pre∧ ∀ K:St→Prop,K st'.toSt→vw P I ops o st.toSt K:=fun⟨a,b,c⟩=>⟨a,b,fun K hK=>by unfold vw;rw [hg];simp only [g1];exact c K hK⟩
   split
   ·rename_i hk
    refine Yl.bnd (Qn hw g2 o.op) fun v hv=>Yl.ret (W ⟨J0 hw g2 _ (fun hc=>(hv hc).1),Cc _ _ _,fun K hK=>?_⟩)
    unfold vv
    rw [hk]
    refine⟨v.toV,fun hc=>(hv hc).2,?_⟩
    rw [AB.put_toSt]at hK
    simpa only [DV.toV] using hK
   ·rename_i f xs hk
    refine Yl.bnd (aJ hw g2) fun v hv=>Yl.ret (W ⟨J0 hw g2 _ (fun _=>hv.1 _),Cc _ _ _,fun K hK=>?_⟩)
    obtain⟨q1,q2,q3,q4⟩:=hv
    unfold vv
    rw [hk]
    refine⟨q3,v.toV,q2,q4,?_⟩
    rw [AB.put_toSt]at hK
    simpa only [DV.toV] using hK
   ·rename_i x hk
    refine Yl.bnd (Qn hw g2 o.op) fun v hv=>Yl.ret (W ⟨J0 hw g2 _ (fun hc=>(hv hc).1),Cc _ _ _,fun K hK=>?_⟩)
    unfold vv
    rw [hk]
    refine⟨v.toV,fun hc=>(hv hc).2,?_⟩
    rw [AB.put_toSt]at hK
    simpa only [DV.toV] using hK
   ·exact Yl.no
  ·exact Yl.no
def ry {P:Program} {I:World→Prop} (Γ:List (CE T P I)) (ops:Array Oper):List Oper→AB T→M (AB T)
 | [],st=> .ret st
 | o::rest,st=> .bnd (wv Γ ops o st) fun st'=>ry Γ ops rest st'
theorem gB: ∀ (l:List Oper) (st:AB T) (H:A0 T),BW H st→Yl (ry Γ ops l st) (fun st'=>(∃ H',Nx H st H' st')∧st'.pre=st.pre∧ ∀ K:St→Prop,K st'.toSt→ZQ P I ops l st.toSt K)
 | [],st,H,hw=>Yl.ret ⟨⟨H,Nx.refl hw⟩,rfl,fun _ hK=>hK⟩
 | o::rest,st,H,hw=>Yl.bnd (tZ hw o) fun s hs=>by
   obtain⟨⟨H1,h1⟩,h2,h3⟩:=hs
   refine(gB rest s H1 h1.ok).mono fun s' hs'=>?_
   obtain⟨⟨H2,k1⟩,k2,k3⟩:=hs'
   exact⟨⟨H2,h1.trans k1⟩,k2.trans h2,fun K hK=>h3 _ (k3 K hK)⟩
end
end Go.PL
namespace Go.PL
open Go Go.RowKit
variable {T:C6}
def Xk (v v':V):Prop:= ∀ (w:World) (G:Bj) (u:Value),Ak w G v u→Ak w G v' u
def Oj (c c':C):Prop:= ∀ (w:World) (G:Bj) (u:Value),Ap w G c u→Ap w G c' u
def DP:List C→List C→Prop
 | [],[]=>True
 | c::cs,d::ds=>Oj c d∧DP cs ds
 | _,_=>False
theorem Oj.refl (c:C):Oj c c:=fun _ _ _ h=>h
theorem Xk.refl (c:V):Xk c c:=fun _ _ _ h=>h
theorem Oj.weak {c d:C} (h:Gm c=d):Oj c d:=fun _ _ _ hr=>h▸JS hr
theorem DP.length: ∀ {cs ds:List C},DP cs ds→cs.length=ds.length
 | [],[],_=>rfl
 | [],_::_,h=>h.elim
 | _::_,[],h=>h.elim
 | c::cs,d::ds,h=>by simp [DP.length h.2]
theorem DP.append: ∀ {a b x y:List C},DP a b→DP x y→DP (a++x) (b++y)
 | [],[],_,_,_,h=>h
 | [],_::_,_,_,h,_=>h.elim
 | _::_,[],_,_,h,_=>h.elim
 | c::cs,d::ds,_,_,h,k=>⟨h.1,DP.append h.2 k⟩
theorem DP.weak: ∀ {cs ds:List C},cs.map Gm=ds→DP cs ds
 | [],ds,h=>by simp at h;subst h;trivial
 | c::cs,ds,h=>by
   subst h
   exact⟨Oj.weak rfl,DP.weak rfl⟩
theorem DP.refl: ∀ cs:List C,DP cs cs
 | []=>trivial
 | c::cs=>⟨Oj.refl c,DP.refl cs⟩
theorem Au.imp {w:World} {G:Bj}: ∀ {cs ds:List C} {b off:Nat},DP cs ds→Au w G cs b off→Au w G ds b off
 | [],[],_,_,_,h=>h
 | [],_::_,_,_,h,_=>h.elim
 | _::_,[],_,_,h,_=>h.elim
 | c::cs,d::ds,b,off,h,hr=>by
   simp only [Au]at hr ⊢
   obtain⟨⟨v,h1,h2⟩,h3⟩:=hr
   exact⟨⟨v,h1,h.1 _ _ _ h2⟩,Au.imp h.2 h3⟩
theorem At.imp {w:World} {G:Bj}: ∀ {cs ds:List C} {vs:List Value},DP cs ds→At w G cs vs→At w G ds vs
 | [],[],_,_,h=>h
 | [],_::_,_,h,_=>h.elim
 | _::_,[],_,h,_=>h.elim
 | c::cs,d::ds,[],_,hr=>by simp only [At]at hr
 | c::cs,d::ds,v::vs,h,hr=>by
   simp only [At]at hr ⊢
   exact⟨h.1 _ _ _ hr.1,At.imp h.2 hr.2⟩
structure zk (st st':St):Prop where
 len:st'.tm.length=st.tm.length
 tm: ∀ i,Xk (st.tm.getD i .undef) (st'.tm.getD i .undef)
 so: ∀ e'∈st'.so,e'∈st.so∨ ∃ cs cs',(⟨e'.id,none,cs,false⟩:AM)∈st.so∧e'=⟨e'.id,none,cs',false⟩∧DP cs cs'∧bO cs=false
 nd:(st'.so.map (·.id)).Nodup
 gh:st'.gh=st.gh
 pre:st'.pre=st.pre
theorem R.wkn {F:Fr} {st st':St} {a:Act} {w:World} {G:Bj} (h:R F st a w G) (k:zk st st'):R F st' a w G:={
 dfr:=h.dfr
 size:=by rw [k.len];exact h.size
 slots:=fun i=>k.tm i _ _ _ (h.slots i)
 ghosts:=by rw [k.gh];exact h.ghosts
 store:=fun e he=>by
  rcases k.so e he with q | ⟨cs,cs',q1,q2,q3,q4⟩
  ·exact h.store e q
  ·have:=h.store _ q1
   rw [q2]
   simp only [BQ]at this ⊢
   obtain⟨b,h1,h2⟩:=this
   obtain⟨Ty,cur,h3,h4,h5⟩:=h2.cells q4
   exact⟨b,h1, .inr ⟨Ty,cur,h3,by rw [h4,q3.length],h5.imp q3⟩⟩
 deep:=fun e he=>by
  rcases k.so e he with q | ⟨cs,cs',q1,q2,q3,q4⟩
  ·exact h.deep e q
  ·have:=h.deep _ q1
   rw [q2]
   exact⟨this.1,fun hd=>by have:=(this.2 hd).1;cases this⟩
 pures:=fun e he hp=>by
  rcases k.so e he with q | ⟨cs,cs',q1,q2,q3,q4⟩
  ·exact h.pures e q hp
  ·rw [q2]at hp;cases hp
 nodup:=k.nd
 inj:=h.inj,lt:=h.lt,new:=h.new,wr:=h.wr,avlt:=h.avlt,inv:=h.inv,avold:=h.avold,os:=h.os,tape:=h.tape,output:=h.output,hsize:=h.hsize,ext:=h.ext}
theorem Wk.wkn {st st':St} (k:zk st st'):Wk st st':=fun _ _ _ G hR=>⟨G,hR.wkn k⟩
inductive Sg where
 | v (t:VT)
 | c (x:C)
inductive VSp where
 | c (s:Sg)
 | agg (l:List Sg)
inductive ESp where
 | box (l:List Sg)
 | row (E:Nat)
structure IE where
 ks:List Nat
 vs:List (Nat×VSp)
 ke:List AC
 es:List (AC×ESp)
def Sg.ts:List Sg→List VT
 | []=>[]
 | .v t::r=>t::Sg.ts r
 | .c _::r=>Sg.ts r
def VSp.ts:VSp→List VT
 | .c s=>Sg.ts [s]
 | .agg l=>Sg.ts l
def ESp.ts:ESp→List VT
 | .box l=>Sg.ts l
 | .row E=>[.k (.lst E)]
def xX:List (Nat×VSp)→List VT
 | []=>[]
 | (_,p)::r=>p.ts++xX r
def xY:List (AC×ESp)→List VT
 | []=>[]
 | (_,p)::r=>p.ts++xY r
def IE.ts (sh:IE):List VT:=xX sh.vs++xY sh.es
def zl (x c:C):Bool:=match x,c with
 | .any,_=>true
 | .osl i, .osl j=>Cs i j
 | .ptr i o, .ptr j o'=>Cs i j&&Nat.beq o o'
 | .nilp, .nilp =>true
 | .niface, .niface =>true
 | .held, .held =>true
 | .nils, .nils =>true
 | .fn f, .fn g=>Nat.beq f g
 | _,_=>false
theorem t6 {x c:C} (h:zl x c=true):Oj c x:=by
 unfold zl at h
 split at h
 ·intro w G u hr
  simp only [Ap]
  exact hr.one
 ·have:=BH.1 h;subst this;exact Oj.refl _
 ·simp only [Bool.and_eq_true,Nat.beq_eq]at h
  have:=BH.1 h.1;subst this;rw [h.2];exact Oj.refl _
 ·exact Oj.refl _
 ·exact Oj.refl _
 ·exact Oj.refl _
 ·exact Oj.refl _
 ·have:=Nat.eq_of_beq_eq_true h;subst this;exact Oj.refl _
 ·cases h
def IU:List Sg→List (DC T)→Option (List (DV T)×List (DC T))
 | [],cs=>some ([],cs)
 | .c x::r,c::cs=>match zl x c.toC with
   | true=>IU r cs
   | false=>none
 | .v (.k _)::r,c::cs=>match IU r cs with
   | some (vs,ds)=>some (.c c::vs,ds)
   | none=>none
 | .v (.s E)::r,cs=>match Nat.ble (T.sz E) cs.length,IU r (cs.drop (T.sz E))with
   | true,some (vs,ds)=>some (.agg (cs.take (T.sz E))::vs,ds)
   | _,_=>none
 | _,_=>none
def ER:List Sg→List (DV T)→Option (List (DC T)×List (DV T))
 | [],vs=>some ([],vs)
 | .c x::r,vs=>match ER r vs with
   | some (cs,us)=>some (.c x::cs,us)
   | none=>none
 | .v _::r, .c y::vs=>match ER r vs with
   | some (cs,us)=>some (y::cs,us)
   | none=>none
 | .v _::r, .agg ds::vs=>match ER r vs with
   | some (cs,us)=>some (ds++cs,us)
   | none=>none
 | _::_,_=>none
def t7 (v v':DV T):Prop:=(∃ c c',v= .c c∧v'= .c c'∧Gm c.toC=c'.toC∧c'.ok)∨(∃ cs cs',v= .agg cs∧v'= .agg cs'∧(A2 cs).map Gm=A2 cs'∧Cm cs')
inductive All2 {α β:Type} (P:α→β→Prop):List α→List β→Prop
 | nil:All2 P [] []
 | cons {a b l m}:P a b→All2 P l m→All2 P (a::l) (b::m)
theorem All2.append_inv {α β:Type} {P:α→β→Prop}: ∀ {a b:List α} {m:List β},All2 P (a++b) m→ ∃ x y,m=x++y∧All2 P a x∧All2 P b y
 | [],b,m,h=>⟨[],m,rfl, .nil,h⟩
 | c::a,b,m,h=>by
   cases h with
   | cons h1 h2=>
     obtain⟨x,y,e,p,q⟩:=All2.append_inv h2
     subst e
     exact⟨_::x,y,rfl, .cons h1 p,q⟩
theorem FJ: ∀ {l:List Sg} {cs ds:List (DC T)} {vs vs':List (DV T)} {cs':List (DC T)} {us us':List (DV T)},IU l cs=some (vs,ds)→All2 t7 vs vs'→ER l (vs'++us)=some (cs',us')→
 us'=us∧DP (A2 cs) (A2 cs'++A2 ds)∧Cm cs'
 | [],cs,ds,vs,vs',cs',us,us',h,hw,hi=>by
   simp only [IU,Option.some.injEq,Prod.mk.injEq]at h
   obtain⟨rfl,rfl⟩:=h
   cases hw
   simp only [ER,List.nil_append,Option.some.injEq,Prod.mk.injEq]at hi
   obtain⟨rfl,rfl⟩:=hi
   exact⟨rfl,by simpa [A2] using DP.refl _,by simp [Cm]⟩
 | .c x::r,c::cs,ds,vs,vs',cs',us,us',h,hw,hi=>by
   simp only [IU]at h
   split at h
   ·rename_i ho
    simp only [ER]at hi
    split at hi
    ·rename_i cs1 us1 h1
     simp only [Option.some.injEq,Prod.mk.injEq]at hi
     obtain⟨rfl,rfl⟩:=hi
     obtain⟨a,b,d⟩:=FJ h hw h1
     refine⟨a,?_,by simp only [Cm,DC.ok];exact⟨trivial,d⟩⟩
     simp only [A2,List.cons_append,DC.toC]
     exact⟨t6 ho,b⟩
    ·cases hi
   ·cases h
 | .v (.k kd)::r,c::cs,ds,vs,vs',cs',us,us',h,hw,hi=>by
   simp only [IU]at h
   split at h
   ·rename_i vs1 ds1 h1
    simp only [Option.some.injEq,Prod.mk.injEq]at h
    obtain⟨rfl,rfl⟩:=h
    cases hw with
    | cons p q=>
      rename_i b m
      rcases p with ⟨c0,c',e1,e2,e3,e4⟩ | ⟨_,_,e1,_⟩
      ·injection e1 with e1
       subst e1 e2
       simp only [List.cons_append,ER]at hi
       split at hi
       ·rename_i cs1 us1 h2
        simp only [Option.some.injEq,Prod.mk.injEq]at hi
        obtain⟨rfl,rfl⟩:=hi
        obtain⟨a,b,d⟩:=FJ h1 q h2
        refine⟨a,?_,by simp only [Cm];exact⟨e4,d⟩⟩
        simp only [A2,List.cons_append]
        exact⟨Oj.weak e3,b⟩
       ·cases hi
      ·cases e1
   ·cases h
 | .v (.s E)::r,cs,ds,vs,vs',cs',us,us',h,hw,hi=>by
   simp only [IU]at h
   split at h
   ·rename_i vs1 ds1 hb h1
    simp only [Option.some.injEq,Prod.mk.injEq]at h
    obtain⟨rfl,rfl⟩:=h
    cases hw with
    | cons p q=>
      rename_i b m
      rcases p with ⟨_,_,e1,_⟩ | ⟨c0,c',e1,e2,e3,e4⟩
      ·cases e1
      ·injection e1 with e1
       subst e1 e2
       simp only [List.cons_append,ER]at hi
       split at hi
       ·rename_i cs1 us1 h2
        simp only [Option.some.injEq,Prod.mk.injEq]at hi
        obtain⟨rfl,rfl⟩:=hi
        obtain⟨a,b,d⟩:=FJ h1 q h2
        refine⟨a,?_,CL e4 d⟩
        have e:A2 cs=A2 (cs.take (T.sz E))++A2 (cs.drop (T.sz E)):=by rw [←B4,List.take_append_drop]
        rw [e,B4,List.append_assoc]
        exact(DP.weak e3).append b
       ·cases hi
   ·cases h
 | .c _::_,[],_,_,_,_,_,_,h,_,_=>by simp [IU]at h
 | .v (.k _)::_,[],_,_,_,_,_,_,h,_,_=>by simp [IU]at h
 | .v (.f _)::_,_,_,_,_,_,_,_,h,_,_=>by simp [IU]at h
def ww:VSp→DV T→Option (List (DV T))
 | .c s, .c x=>match IU [s] [x]with
   | some (vs,[])=>some vs
   | _=>none
 | .agg l, .agg cs=>match IU l cs with
   | some (vs,[])=>some vs
   | _=>none
 | _,_=>none
def oU:VSp→List (DV T)→Option (DV T×List (DV T))
 | .c s,vs=>match ER [s] vs with
   | some ([c],us)=>some (.c c,us)
   | _=>none
 | .agg l,vs=>match ER l vs with
   | some (cs,us)=>some (.agg cs,us)
   | none=>none
theorem oV {p:VSp} {v:DV T} {vs vs' us us':List (DV T)} {v':DV T} (h:ww p v=some vs) (hw:All2 t7 vs vs') (hi:oU p (vs'++us)=some (v',us')):us'=us∧Xk v.toV v'.toV:=by
 unfold ww at h
 split at h
 ·rename_i s x
  split at h
  ·rename_i vs1 h1
   injection h with h;subst h
   simp only [oU]at hi
   split at hi
   ·rename_i c us1 h2
    simp only [Option.some.injEq,Prod.mk.injEq]at hi
    obtain⟨rfl,rfl⟩:=hi
    obtain⟨a,b,d⟩:=FJ h1 hw h2
    refine⟨a,?_⟩
    simp only [A2,List.append_nil,DP,and_true]at b
    intro w G u hr
    simp only [DV.toV,Ak]at hr ⊢
    exact b _ _ _ hr
   ·cases hi
  ·cases h
 ·rename_i l cs
  split at h
  ·rename_i vs1 h1
   injection h with h;subst h
   simp only [oU]at hi
   split at hi
   ·rename_i c us1 h2
    simp only [Option.some.injEq,Prod.mk.injEq]at hi
    obtain⟨rfl,rfl⟩:=hi
    obtain⟨a,b,d⟩:=FJ h1 hw h2
    refine⟨a,?_⟩
    simp only [A2,List.append_nil]at b
    intro w G u hr
    simp only [DV.toV,Ak]at hr ⊢
    obtain⟨arr,e,hr⟩:=hr
    exact⟨arr,e,hr.imp b⟩
   ·cases hi
  ·cases h
 ·cases h
def oW (v:DV T):Prop:= ∀ (H:A0 T) (n:Nat),v.ok H n
theorem J2: ∀ {l:List Sg} {vs us:List (DV T)} {cs:List (DC T)},(∀ v∈vs,oW v)→ER l vs=some (cs,us)→Cm cs∧ ∀ v∈us,oW v
 | [],vs,us,cs,hv,h=>by
   simp only [ER,Option.some.injEq,Prod.mk.injEq]at h
   obtain⟨rfl,rfl⟩:=h
   exact⟨by simp [Cm],hv⟩
 | .c x::r,vs,us,cs,hv,h=>by
   simp only [ER]at h
   split at h
   ·rename_i cs1 us1 h1
    simp only [Option.some.injEq,Prod.mk.injEq]at h
    obtain⟨rfl,rfl⟩:=h
    obtain⟨a,b⟩:=J2 hv h1
    exact⟨by simp only [Cm,DC.ok];exact⟨trivial,a⟩,b⟩
   ·cases h
 | .v t::r,vs,us,cs,hv,h=>by
   match vs,hv,h with
   | .c y::vs,hv,h=>
     simp only [ER]at h
     split at h
     ·rename_i cs1 us1 h1
      simp only [Option.some.injEq,Prod.mk.injEq]at h
      obtain⟨rfl,rfl⟩:=h
      obtain⟨a,b⟩:=J2 (fun v hm=>hv v (by simp [hm])) h1
      have:=hv (.c y) (by simp) ⟨fun _=> .u,fun _=>⟨[],0, .box []⟩⟩ 0
      simp only [DV.ok]at this
      exact⟨by simp only [Cm];exact⟨this,a⟩,b⟩
     ·cases h
   | .agg ds::vs,hv,h=>
     simp only [ER]at h
     split at h
     ·rename_i cs1 us1 h1
      simp only [Option.some.injEq,Prod.mk.injEq]at h
      obtain⟨rfl,rfl⟩:=h
      obtain⟨a,b⟩:=J2 (fun v hm=>hv v (by simp [hm])) h1
      have:=hv (.agg ds) (by simp) ⟨fun _=> .u,fun _=>⟨[],0, .box []⟩⟩ 0
      simp only [DV.ok]at this
      exact⟨CL this a,b⟩
     ·cases h
   | [],_,h=>simp [ER]at h
   | .tup _::_,_,h=>simp [ER]at h
   | .g _ _::_,_,h=>simp [ER]at h
   | .u ::_,_,h=>simp [ER]at h
theorem t8 {p:VSp} {vs us:List (DV T)} {v:DV T} (hv: ∀ v∈vs,oW v) (h:oU p vs=some (v,us)):oW v∧ ∀ v∈us,oW v:=by
 unfold oU at h
 split at h
 ·split at h
  ·rename_i c us1 h1
   simp only [Option.some.injEq,Prod.mk.injEq]at h
   obtain⟨rfl,rfl⟩:=h
   obtain⟨a,b⟩:=J2 hv h1
   simp only [Cm,and_true]at a
   exact⟨fun H n=>by simp only [DV.ok];exact a,b⟩
  ·cases h
 ·split at h
  ·rename_i c us1 h1
   simp only [Option.some.injEq,Prod.mk.injEq]at h
   obtain⟨rfl,rfl⟩:=h
   obtain⟨a,b⟩:=J2 hv h1
   exact⟨fun H n=>by simp only [DV.ok];exact a,b⟩
  ·cases h
end Go.PL
namespace Go.PL
open Go Go.RowKit
variable {T:C6}
def cL (kd:Kd) (v:DV T):Option (oK T.den kd):=match yE v with
 | some x=>Qh true kd x
 | none=>none
def cM (E:Nat) (v:DV T):Option (T.den E):=match yF v with
 | some cs=>qM true E cs
 | none=>none
def Xl:(t:VT)→DV T→Option (HY T t)
 | .k kd,v=>cL kd v
 | .s E,v=>cM E v
 | .f _,_=>none
theorem cN {kd:Kd} {v:DV T} {x:oK T.den kd} (h:cL kd v=some x):t7 v (.c (.k kd x)):=by
 unfold cL at h
 split at h
 ·rename_i y hy
  exact .inl ⟨y,_,gy hy,rfl,(KI h).1,by simp only [DC.ok]⟩
 ·cases h
theorem cO {E:Nat} {v:DV T} {x:T.den E} (h:cM E v=some x):t7 v (.agg (km E x)):=by
 unfold cM at h
 split at h
 ·rename_i y hy
  exact .inr ⟨y,_,gz hy,rfl,by rw [HS];exact(HT h).1,Pi E x⟩
 ·cases h
theorem Ux {t:VT} {v:DV T} {x:HY T t} (h:Xl t v=some x):t7 v (LF t x):=by
 cases t with
 | k kd=>exact cN h
 | s E=>exact cO h
 | f g=>cases h
def nB {α β:Type}:Option α→Option β→Option (α×β)
 | some x,some y=>some (x,y)
 | _,_=>none
theorem kG {α β:Type} {a:Option α} {b:Option β} {x:α×β} (h:nB a b=some x):a=some x.1∧b=some x.2:=by
 cases a<;>cases b<;>simp [nB]at h
 subst h;exact⟨rfl,rfl⟩
def cP:(ts:List VT)→List (DV T)→Option (RT T ts)
 | [],[]=>some ()
 | [t],[v]=>Xl t v
 | t::u::ts,v::vs=>nB (Xl t v) (cP (u::ts) vs)
 | _,_=>none
theorem Uy: ∀ {ts:List VT} {vs:List (DV T)} {x:RT T ts},cP ts vs=some x→All2 t7 vs (Cq ts x)
 | [],[],x,_=> .nil
 | [],_::_,x,h=>by cases (show (none:Option (RT T []))=some x from h)
 | [t],[v],x,h=> .cons (Ux (show Xl t v=some x from h)) .nil
 | [t],[],x,h=>by cases (show (none:Option (RT T [t]))=some x from h)
 | [t],v::w::vs,x,h=>by cases (show (none:Option (RT T [t]))=some x from h)
 | t::u::ts,[],x,h=>by cases (show (none:Option (RT T (t::u::ts)))=some x from h)
 | t::u::ts,v::vs,x,h=>by
   obtain⟨h1,h2⟩:=kG (show nB (Xl t v) (cP (u::ts) vs)=some x from h)
   exact .cons (Ux h1) (Uy h2)
theorem EE (ts:List VT) (x:RT T ts): ∀ v∈Cq ts x,oW v:=fun v hv H n=>HQ.1 (Sz (H:=H) (nx:=n) ts x) v hv
def MA (tm:Tm T):List (Nat×VSp)→Option (List (DV T))
 | []=>some []
 | (s,p)::r=>match ww p (lk tm s),MA tm r with
   | some a,some b=>some (a++b)
   | _,_=>none
def Gx:List (Nat×VSp)→List (DV T)→AB T→Option (AB T×List (DV T))
 | [],vs,st=>some (st,vs)
 | (s,p)::r,vs,st=>match oU p vs with
   | some (v,us)=>Gx r us (st.put (some s) v)
   | none=>none
theorem IV {H:A0 T} {st0:AB T}: ∀ {l:List (Nat×VSp)} {vs us:List (DV T)} {st st':AB T} {H1:A0 T},Nx H st0 H1 st→(∀ v∈vs,oW v)→Gx l vs st=some (st',us)→
 (∃ H',Nx H st0 H' st')∧(∀ v∈us,oW v)∧st'.so=st.so∧st'.gh=st.gh∧st'.pre=st.pre∧st'.m=st.m
 | [],vs,us,st,st',H1,hn,hv,h=>by
   simp only [Gx,Option.some.injEq,Prod.mk.injEq]at h
   obtain⟨rfl,rfl⟩:=h
   exact⟨⟨H1,hn⟩,hv,rfl,rfl,rfl,rfl⟩
 | (s,p)::r,vs,us,st,st',H1,hn,hv,h=>by
   simp only [Gx]at h
   split at h
   ·rename_i v us1 h1
    obtain⟨a,b⟩:=t8 hv h1
    obtain⟨H2,h2⟩:=AB.put_spec hn (some s) (a H1 _)
    obtain⟨c1,c2,c3,c4,c5,c6⟩:=IV h2 b h
    exact⟨c1,c2,c3,c4,c5,c6⟩
   ·cases h
theorem rz (st:AB T) (s i:Nat) (v:DV T):lk (st.put (some s) v).tm i=if s=i then v else lk st.tm i:=by
 simp only [AB.put,lk]
 by_cases h:s=i
 ·subst h;simp
 ·rw [if_neg h]
  have:Nat.beq s i=false:=by
   cases hb:Nat.beq s i
   ·rfl
   ·exact absurd (Nat.eq_of_beq_eq_true hb) h
  rw [this]
theorem aK {tm:Tm T}: ∀ {l:List (Nat×VSp)} {vs vs' us us':List (DV T)} {st st':AB T},MA tm l=some vs→All2 t7 vs vs'→Gx l (vs'++us) st=some (st',us')→(∀ i,Xk (lk tm i).toV (lk st.tm i).toV)→
 us'=us∧ ∀ i,Xk (lk tm i).toV (lk st'.tm i).toV
 | [],vs,vs',us,us',st,st',h,hw,hi,hs=>by
   simp only [MA,Option.some.injEq]at h
   subst h
   cases hw
   simp only [Gx,List.nil_append,Option.some.injEq,Prod.mk.injEq]at hi
   obtain⟨rfl,rfl⟩:=hi
   exact⟨rfl,hs⟩
 | (s,p)::r,vs,vs',us,us',st,st',h,hw,hi,hs=>by
   simp only [MA]at h
   split at h
   ·rename_i a b h1 h2
    injection h with h;subst h
    obtain⟨x,y,rfl,k1,k2⟩:=All2.append_inv hw
    simp only [Gx]at hi
    split at hi
    ·rename_i v us1 h3
     rw [List.append_assoc]at h3
     obtain⟨e,hv⟩:=oV h1 k1 h3
     subst e
     refine aK h2 k2 hi fun i=>?_
     rw [rz]
     split
     ·rename_i e;subst e;exact hv
     ·exact hs i
    ·cases hi
   ·cases h
def wx (l:List (DE T)) (id:AC) (p:ESp):Option (List (DV T)):=match JX l id,p with
 | some e, .box sg=>match e.x with
   | .box cs=>match nl cs,IU sg cs with
     | false,some (vs,[])=>some vs
     | _,_=>none
   | _=>none
 | some e, .row E0=>match e.x with
   | .row E l=>match Nat.beq E E0 with
     | true=>some [.c (.k (.lst E) l)]
     | false=>none
   | _=>none
 | none,_=>none
def oX:ESp→List (DV T)→Option (DX T×List (DV T))
 | .box sg,vs=>match ER sg vs with
   | some (cs,us)=>some (.box cs,us)
   | none=>none
 | .row E0, .c (.k (.lst E) l)::vs=>match Nat.beq E E0 with
   | true=>some (.row E l,vs)
   | false=>none
 | _,_=>none
def Qs (l:List (DE T)):List (AC×ESp)→Option (List (DV T))
 | []=>some []
 | (id,p)::r=>match wx l id p,Qs l r with
   | some a,some b=>some (a++b)
   | _,_=>none
def AB.addE (st:AB T) (id:AC) (x:DX T):AB T:={st with so:=⟨id,st.nx,x⟩::st.so,nx:=st.nx+1}
def gC (id:AC):List (DE T)→Bool
 | []=>false
 | e::r=>match Cs e.id id with
   | true=>true
   | false=>gC id r
theorem Xm {id:AC}: ∀ {l:List (DE T)},gC id l=false→ ∀ e∈l,e.id ≠ id
 | [],_,_,h=>by cases h
 | a::r,h,e,he=>by
   unfold gC at h
   split at h
   ·cases h
   ·rename_i hb
    rcases List.mem_cons.1 he with rfl | he
    ·intro q;rw [BH.2 q]at hb;cases hb
    ·exact Xm h e he
def G8:List (AC×ESp)→List (DV T)→AB T→Option (AB T×List (DV T))
 | [],vs,st=>some (st,vs)
 | (id,p)::r,vs,st=>match oX p vs,gC id st.so with
   | some (x,us),false=>G8 r us (st.addE id x)
   | _,_=>none
theorem ua {p:ESp} {vs us:List (DV T)} {x:DX T} (hv: ∀ v∈vs,oW v) (h:oX p vs=some (x,us)):x.ok∧ ∀ v∈us,oW v:=by
 unfold oX at h
 split at h
 ·split at h
  ·rename_i cs us1 h1
   simp only [Option.some.injEq,Prod.mk.injEq]at h
   obtain⟨rfl,rfl⟩:=h
   exact J2 hv h1
  ·cases h
 ·split at h
  ·simp only [Option.some.injEq,Prod.mk.injEq]at h
   obtain⟨rfl,rfl⟩:=h
   exact⟨trivial,fun v hm=>hv v (by simp [hm])⟩
  ·cases h
 ·cases h
theorem ub {H H1:A0 T} {st0 st:AB T} (hn:Nx H st0 H1 st) {id:AC} {x:DX T} (hx:x.ok) (hid:gC id st.so=false): ∃ H',Nx H st0 H' (st.addE id x):=by
 have he:=CR.setE H1 st.nx ⟨id,st.nx,x⟩
 refine⟨H1.setE st.nx ⟨id,st.nx,x⟩,hn.trans ⟨he,Nat.le_succ _,?_,?_,?_,?_⟩⟩
 ·exact Ch he (Nat.le_succ _) hn.ok.tm
 ·exact fun f hf=>Ch he (Nat.le_succ _) (hn.ok.gh f hf)
 ·intro e hm
  rcases List.mem_cons.1 hm with rfl | hm
  ·exact⟨Nat.lt_succ_self _,by simp [A0.setE],hx⟩
  ·exact E4 he (Nat.le_succ _) hn.ok.so e hm
 ·simp only [AB.addE,List.map_cons]
  refine List.nodup_cons.2 ⟨fun hm=>?_,hn.ok.nd⟩
  obtain⟨e,h1,h2⟩:=List.mem_map.1 hm
  exact Xm hid e h1 h2
theorem KN {H:A0 T} {st0:AB T}: ∀ {l:List (AC×ESp)} {vs us:List (DV T)} {st st':AB T} {H1:A0 T},Nx H st0 H1 st→(∀ v∈vs,oW v)→G8 l vs st=some (st',us)→
 (∃ H',Nx H st0 H' st')∧st'.tm=st.tm∧st'.gh=st.gh∧st'.pre=st.pre∧st'.m=st.m
 | [],vs,us,st,st',H1,hn,hv,h=>by
   simp only [G8,Option.some.injEq,Prod.mk.injEq]at h
   obtain⟨rfl,rfl⟩:=h
   exact⟨⟨H1,hn⟩,rfl,rfl,rfl,rfl⟩
 | (id,p)::r,vs,us,st,st',H1,hn,hv,h=>by
   simp only [G8]at h
   split at h
   ·rename_i x us1 h1 h2
    obtain⟨a,b⟩:=ua hv h1
    obtain⟨H2,h3⟩:=ub hn a h2
    obtain⟨c1,c2,c3,c4,c5⟩:=KN h3 b h
    exact⟨c1,c2,c3,c4,c5⟩
   ·cases h
def uc (l:List (DE T)) (e':DE T):Prop:=e'.toE∈l.map DE.toE∨ ∃ cs cs',(⟨e'.id,none,cs,false⟩:AM)∈l.map DE.toE∧e'.toE=⟨e'.id,none,cs',false⟩∧DP cs cs'∧bO cs=false
theorem oY {l:List (DE T)} {id:AC} {p:ESp} {vs vs' us us':List (DV T)} {x:DX T} (h:wx l id p=some vs) (hw:All2 t7 vs vs') (hi:oX p (vs'++us)=some (x,us')) (t:Nat):us'=us∧uc l ⟨id,t,x⟩:=by
 unfold wx at h
 split at h
 ·rename_i e sg he
  obtain⟨m1,m2,_⟩:=HV he
  split at h
  ·rename_i cs hx
   split at h
   ·rename_i vs1 hm h1
    injection h with h;subst h
    simp only [oX]at hi
    split at hi
    ·rename_i cs' us1 h2
     simp only [Option.some.injEq,Prod.mk.injEq]at hi
     obtain⟨rfl,rfl⟩:=hi
     obtain⟨a,b,d⟩:=FJ h1 hw h2
     simp only [A2,List.append_nil]at b
     refine⟨a, .inr ⟨A2 cs,A2 cs',List.mem_map.2 ⟨e,m1,by rw [DE.toE_box hx,m2]⟩,rfl,b,ai hm (fun c _ kv q=>qO c kv q)⟩⟩
    ·cases hi
   ·cases h
  ·cases h
 ·rename_i e E0 he
  obtain⟨m1,m2,_⟩:=HV he
  split at h
  ·rename_i E l' hx
   split at h
   ·rename_i hE
    have hE:=Nat.eq_of_beq_eq_true hE
    subst hE
    injection h with h;subst h
    cases hw with
    | cons k1 k2=>
      cases k2
      rcases k1 with ⟨c,c',e1,e2,e3,e4⟩ | ⟨_,_,e1,_⟩
      ·injection e1 with e1
       subst e1 e2
       simp only [List.cons_append,List.nil_append]at hi
       unfold oX at hi
       split at hi
       ·rename_i q;cases q
       ·rename_i E0 E' l'' vs0 q1 q2
        injection q1 with q1
        subst q1
        injection q2 with q2 q3
        injection q2 with q2
        subst q2 q3
        split at hi
        ·rename_i hE
         have hE:=Nat.eq_of_beq_eq_true hE
         subst hE
         simp only [Option.some.injEq,Prod.mk.injEq]at hi
         obtain⟨rfl,rfl⟩:=hi
         refine⟨rfl, .inl (List.mem_map.2 ⟨e,m1,?_⟩)⟩
         rw [DE.toE_row hx,m2]
         simp only [DC.toC,Ca,Gm,C.sl.injEq]at e3
         simp only [DE.toE,e3.1,e3.2]
        ·cases hi
       ·cases hi
      ·cases e1
   ·cases h
  ·cases h
 ·cases h
end Go.PL
namespace Go.PL
open Go Go.RowKit
variable {T:C6}
theorem gD {L:List (DE T)}: ∀ {l:List (AC×ESp)} {vs vs' us us':List (DV T)} {st st':AB T},Qs L l=some vs→All2 t7 vs vs'→G8 l (vs'++us) st=some (st',us')→(∀ e∈st.so,uc L e)→
 us'=us∧ ∀ e∈st'.so,uc L e
 | [],vs,vs',us,us',st,st',h,hw,hi,hs=>by
   simp only [Qs,Option.some.injEq]at h
   subst h
   cases hw
   simp only [G8,List.nil_append,Option.some.injEq,Prod.mk.injEq]at hi
   obtain⟨rfl,rfl⟩:=hi
   exact⟨rfl,hs⟩
 | (id,p)::r,vs,vs',us,us',st,st',h,hw,hi,hs=>by
   simp only [Qs]at h
   split at h
   ·rename_i a b h1 h2
    injection h with h;subst h
    obtain⟨x,y,rfl,k1,k2⟩:=All2.append_inv hw
    simp only [G8]at hi
    split at hi
    ·rename_i v us1 h3 h4
     rw [List.append_assoc]at h3
     obtain⟨e,hv⟩:=oY h1 k1 h3 st.nx
     subst e
     refine gD h2 k2 hi fun e he=>?_
     rcases List.mem_cons.1 he with rfl | he
     ·exact hv
     ·exact hs e he
    ·cases hi
   ·cases h
def MB (ks:List Nat):Tm T→Tm T
 | []=>[]
 | (s,t,v)::r=>match JU ks s with
   | true=>(s,t,v)::MB ks r
   | false=>MB ks r
def SE:List AC→AC→Bool
 | [],_=>false
 | a::l,b=>match Cs a b with
   | true=>true
   | false=>SE l b
def Pr (ke:List AC):List (DE T)→List (DE T)
 | []=>[]
 | e::r=>match SE ke e.id with
   | true=>e::Pr ke r
   | false=>Pr ke r
theorem Ps {ks:List Nat}: ∀ {tm:Tm T} {x:Nat×Nat×DV T},x∈MB ks tm→x∈tm
 | [],_,h=>h
 | (s,t,v)::r,x,h=>by
   unfold MB at h
   split at h
   ·rcases List.mem_cons.1 h with rfl | h
    ·simp
    ·simp [Ps h]
   ·simp [Ps h]
theorem aL {ks:List Nat} (i:Nat): ∀ tm:Tm T,lk (MB ks tm) i=(match JU ks i with | true=>lk tm i | false=> .u)
 | []=>by cases JU ks i<;>rfl
 | (s,t,v)::r=>by
   have ih:=aL (ks:=ks) i r
   unfold MB
   cases hs:JU ks s with
   | true=>
     simp only [lk]
     cases hb:Nat.beq s i with
     | true=>
       have:=Nat.eq_of_beq_eq_true hb
       subst this
       rw [hs]
     | false=>exact ih
   | false=>
     simp only
     rw [ih]
     cases hi:JU ks i with
     | true=>
       simp only [lk]
       cases hb:Nat.beq s i with
       | true=>
         have:=Nat.eq_of_beq_eq_true hb
         subst this
         rw [hs]at hi;cases hi
       | false=>rfl
     | false=>rfl
theorem Xn {b:AC}: ∀ {l:List AC},SE l b=true↔b∈l
 | []=>by simp [SE]
 | a::l=>by
   unfold SE
   cases h:Cs a b with
   | true=>have:=BH.1 h;subst this;simp
   | false=>
     have:b ≠ a:=fun e=>by rw [BH.2 e.symm]at h;cases h
     simp [Xn (l:=l),this]
theorem HZ (ke:List AC): ∀ l:List (DE T),(Pr ke l).Sublist l∧ ∀ e∈Pr ke l,e.id∈ke
 | []=>⟨List.Sublist.slnil,fun _ h=>by cases h⟩
 | e::r=>by
   obtain⟨a,b⟩:=HZ ke r
   unfold Pr
   split
   ·rename_i h
    refine⟨a.cons_cons _,fun x hx=>?_⟩
    rcases List.mem_cons.1 hx with rfl | hx
    ·exact Xn.1 h
    ·exact b x hx
   ·exact⟨a.cons _,b⟩
def IE.base (sh:IE) (st:AB T):AB T:={st with tm:=MB sh.ks st.tm,so:=Pr sh.ke st.so}
theorem IE.base_nx {H:A0 T} (sh:IE) {st:AB T} (h:BW H st):Nx H st H (sh.base st):=
 ⟨CR.refl _ _,Nat.le_refl _,fun s t v hm=>h.tm s t v (Ps hm),h.gh,fun e he=>h.so e ((HZ _ _).1.subset he),List.Sublist.nodup ((HZ _ _).1.map _) h.nd⟩
def IE.inst (sh:IE) (st:AB T) (vs:List (DV T)):Option (AB T):=match Gx sh.vs vs (sh.base st)with
 | some (s,us)=>match G8 sh.es us s with
   | some (s',_)=>some s'
   | none=>none
 | none=>none
theorem IE.inst_nx {H:A0 T} {sh:IE} {st s':AB T} (h:BW H st) {vs:List (DV T)} (hv: ∀ v∈vs,oW v) (hi:sh.inst st vs=some s'): ∃ H',Nx H st H' s':=by
 unfold IE.inst at hi
 split at hi
 ·rename_i s us h1
  split at hi
  ·rename_i s2 us2 h2
   injection hi with hi;subst hi
   obtain⟨⟨H1,a⟩,b,_⟩:=IV (sh.base_nx h) hv h1
   exact(KN a b h2).1
  ·cases hi
 ·cases hi
def nC (ks:List Nat) (tm tm0:Tm T):Bool:=match ks with
 | []=>true
 | s::r=>match Nat.beq (YM tm s) (YM tm0 s)with
   | true=>nC r tm tm0
   | false=>false
def nD (ke:List AC) (l l0:List (DE T)):Bool:=match ke with
 | []=>true
 | i::r=>match JX l i,JX l0 i with
   | some a,some b=>match Nat.beq a.tag b.tag with
     | true=>nD r l l0
     | false=>false
   | _,_=>false
def oZ:Tm T→Tm T→Bool
 | [],[]=>true
 | (s,t,_)::r,(s',t',_)::r'=>match Nat.beq s s'&&Nat.beq t t' with
   | true=>oZ r r'
   | false=>false
 | _,_=>false
def o4:List (Nat×Tm T)→List (Nat×Tm T)→Bool
 | [],[]=>true
 | (m,tm)::r,(m',tm')::r'=>match Nat.beq m m'&&oZ tm tm' with
   | true=>o4 r r'
   | false=>false
 | _,_=>false
theorem Xo: ∀ {ks:List Nat} {tm tm0:Tm T},nC ks tm tm0=true→ ∀ s,JU ks s=true→YM tm s=YM tm0 s
 | [],_,_,_,s,hs=>by simp [JU]at hs
 | a::r,tm,tm0,h,s,hs=>by
   unfold nC at h
   split at h
   ·rename_i hb
    rw [HO]at hs
    rcases List.mem_cons.1 hs with rfl | hs
    ·exact Nat.eq_of_beq_eq_true hb
    ·exact Xo h s (HO.2 hs)
   ·cases h
theorem Xp: ∀ {ke:List AC} {l l0:List (DE T)},nD ke l l0=true→ ∀ i∈ke, ∃ a b,JX l i=some a∧JX l0 i=some b∧a.tag=b.tag
 | [],_,_,_,i,hi=>by cases hi
 | k::r,l,l0,h,i,hi=>by
   unfold nD at h
   split at h
   ·rename_i a b h1 h2
    split at h
    ·rename_i hb
     rcases List.mem_cons.1 hi with rfl | hi
     ·exact⟨a,b,h1,h2,Nat.eq_of_beq_eq_true hb⟩
     ·exact Xp h i hi
    ·cases h
   ·cases h
theorem aM {H H':A0 T} {n n':Nat} (he:CR n H H'): ∀ {tm tm':Tm T},oZ tm' tm=true→Ph H n tm→Ph H' n' tm'→tm'=tm
 | [],[],_,_,_=>rfl
 | [],_::_,h,_,_=>by simp [oZ]at h
 | _::_,[],h,_,_=>by simp [oZ]at h
 | (s,t,v)::r,(s',t',v')::r',h,a,b=>by
   unfold oZ at h
   split at h
   ·rename_i hb
    simp only [Bool.and_eq_true,Nat.beq_eq]at hb
    obtain⟨rfl,rfl⟩:=hb
    obtain⟨a1,a2,_⟩:=a s' t' v (by simp)
    obtain⟨_,b2,_⟩:=b s' t' v' (by simp)
    have:v'=v:=by rw [←a2, ←b2,(he t' a1).1]
    subst this
    rw [aM he h (fun s t v hm=>a s t v (by simp [hm])) (fun s t v hm=>b s t v (by simp [hm]))]
   ·cases h
theorem aO {H H':A0 T} {n n':Nat} (he:CR n H H'): ∀ {l l':List (Nat×Tm T)},o4 l' l=true→(∀ f∈l,Ph H n f.2)→(∀ f∈l',Ph H' n' f.2)→l'=l
 | [],[],_,_,_=>rfl
 | [],_::_,h,_,_=>by simp [o4]at h
 | _::_,[],h,_,_=>by simp [o4]at h
 | (m,tm)::r,(m',tm')::r',h,a,b=>by
   unfold o4 at h
   split at h
   ·rename_i hb
    simp only [Bool.and_eq_true,Nat.beq_eq]at hb
    obtain⟨rfl,hb⟩:=hb
    rw [aM he hb (a (m',tm) (by simp)) (b (m',tm') (by simp)),aO he h (fun f hm=>a f (by simp [hm])) (fun f hm=>b f (by simp [hm]))]
   ·cases h
def Jr:List AC→AB T→AB T
 | [],st=>st
 | i::r,st=>match st.frz i with
   | some s=>Jr r s
   | none=>Jr r st
theorem IW {H0:A0 T} {st0:AB T}: ∀ {l:List AC} {st:AB T} {H:A0 T},Nx H0 st0 H st→(∃ H',Nx H0 st0 H' (Jr l st))∧Wk st.toSt (Jr l st).toSt
 | [],st,H,h=>⟨⟨H,h⟩,Wk.less (Cb.refl _)⟩
 | i::r,st,H,h=>by
   unfold Jr
   split
   ·rename_i s hs
    obtain⟨⟨H1,a⟩,b,_⟩:=AB.frz_spec h.ok hs
    obtain⟨c,d⟩:=IW (l:=r) (h.trans a)
    exact⟨c,Wk.trans (b▸Wk.frz _ _) d⟩
   ·exact IW (l:=r) h
def vl:List (AC×ESp)→List AC
 | []=>[]
 | (i,_)::r=>i::vl r
def rA (tm:Tm T):List (Nat×VSp)→List AC
 | []=>[]
 | (s,_)::r=>aE (lk tm s)++rA tm r
def cQ (l:List (DE T)):List (AC×ESp)→List AC
 | []=>[]
 | (i,_)::r=>match JX l i with
   | some e=>match e.x with
     | .box cs=>aD cs++cQ l r
     | _=>cQ l r
   | none=>cQ l r
def rB (l:List AC):List AC→List AC
 | []=>[]
 | i::r=>match SE l i with
   | true=>rB l r
   | false=>i::rB l r
def IE.frz (sh:IE) (st:AB T):List AC:=rB (sh.ke++vl sh.es) (rA st.tm sh.vs++cQ st.so sh.es)
def IE.gen1 (sh:IE) (st0 s:AB T):Option (RT T sh.ts):=
 match nC sh.ks s.tm st0.tm&&(nD sh.ke s.so st0.so&&(o4 s.gh st0.gh&&(Nat.beq s.m st0.m&&Cs s.pre st0.pre)))with
 | true=>match MA s.tm sh.vs,Qs s.so sh.es with
   | some a,some b=>cP sh.ts (a++b)
   | _,_=>none
 | false=>none
def IE.gen (sh:IE) (st0 st':AB T):Option (RT T sh.ts):=sh.gen1 st0 (Jr (sh.frz st') st')
theorem cR {l:List (DE T)} (hn:(l.map DE.id).Nodup): ∀ {e:DE T},e∈l→JX l e.id=some e:=by
 induction l with
 | nil=>intro e h;cases h
 | cons a r ih=>
   intro e h
   rw [List.map_cons]at hn
   obtain⟨n1,n2⟩:=List.nodup_cons.1 hn
   unfold JX
   split
   ·rename_i hb
    have hb:=BH.1 hb
    rcases List.mem_cons.1 h with rfl | h
    ·rfl
    ·exact absurd (List.mem_map.2 ⟨e,h,hb.symm⟩) n1
   ·rename_i hb
    rcases List.mem_cons.1 h with rfl | h
    ·rw [BH.2 rfl]at hb;cases hb
    ·exact ih n2 h
theorem IE.gen1_ok {H H':A0 T} {sh:IE} {st0 s s1:AB T} (h0:BW H st0) (hN:Nx H st0 H' s) {x:RT T sh.ts} (hg:sh.gen1 st0 s=some x) (hi:sh.inst st0 (Cq sh.ts x)=some s1):zk s.toSt s1.toSt:=by
 unfold IE.gen1 at hg
 split at hg
 ·rename_i hb
  simp only [Bool.and_eq_true,Nat.beq_eq]at hb
  obtain⟨k1,k2,k3,k4,k5⟩:=hb
  split at hg
  ·rename_i a b ga gb
   have hw:=Uy hg
   obtain⟨va,vb,hv,wa,wb⟩:=All2.append_inv hw
   unfold IE.inst at hi
   split at hi
   ·rename_i s2 us h1
    split at hi
    ·rename_i s3 us2 h2
     injection hi with hi;subst hi
     rw [hv]at h1
     have hpv:=EE sh.ts x
     rw [hv]at hpv
     obtain⟨⟨H1,n1⟩,n2,n3,n4,n5,n6⟩:=IV (sh.base_nx h0) hpv h1
     have hbase: ∀ i,Xk (lk s.tm i).toV (lk (sh.base st0).tm i).toV :=by
      intro i
      show Xk (lk s.tm i).toV (lk (MB sh.ks st0.tm) i).toV
      rw [aL]
      cases hm:JU sh.ks i with
      | false=>simp only [DV.toV];intro w G u _;simp only [Ak]
      | true=>
        simp only
        have ht:=Xo k1 i hm
        have:lk s.tm i=lk st0.tm i:=by
         rcases Qf st0.tm i with ⟨q1,q2⟩ | ⟨t,q1,q2⟩
         ·rw [q2]at ht
          rcases Qf s.tm i with ⟨r1,r2⟩ | ⟨t,r1,r2⟩
          ·rw [r1,q1]
          ·rw [r2]at ht;cases ht
         ·obtain⟨p1,p2⟩:=cA h0.tm q2
          obtain⟨p3,p4⟩:=cA hN.ok.tm (ht.trans q2)
          rw [←p2, ←p4,(hN.ext t p1).1]
        rw [this]
        exact Xk.refl _
     obtain⟨e1,hsl⟩:=aK (us:=vb) ga wa h1 hbase
     subst e1
     have hpb: ∀ v∈us,oW v:=n2
     obtain⟨⟨H2,m1⟩,m2,m3,m4,m5⟩:=KN n1 hpb h2
     have hso0: ∀ e∈s2.so,uc s.so e:=by
      intro e he
      rw [n3]at he
      have he:e∈Pr sh.ke st0.so:=he
      have hid:=(HZ sh.ke st0.so).2 e he
      have hmem:=(HZ sh.ke st0.so).1.subset he
      obtain⟨a',b',q1,q2,q3⟩:=Xp k2 e.id hid
      rw [cR h0.nd hmem]at q2
      injection q2 with q2;subst q2
      obtain⟨t1,t2,_⟩:=h0.so e hmem
      obtain⟨u1,u2,_⟩:=HV q1
      obtain⟨v1,v2,_⟩:=hN.ok.so a' u1
      have:a'=e:=by rw [←t2, ←v2,q3,(hN.ext e.tag t1).2]
      subst this
      exact .inl (List.mem_map.2 ⟨a',u1,rfl⟩)
     have h2':G8 sh.es (us++[]) s2=some (s3,us2):=by rw [List.append_nil];exact h2
     obtain⟨_,hen⟩:=gD gb wb h2' hso0
     have hgh:=aO hN.ext k3 h0.gh hN.ok.gh
     exact {
      len:=by
       simp only [AB.toSt,Bt,List.length_map,List.length_range]
       rw [m5,n6,k4];rfl
      tm:=fun i=>by
       show Xk ((Bt s.m s.tm).getD i .undef) ((Bt s3.m s3.tm).getD i .undef)
       rw [Sp,Sp,m5,n6,m2]
       have:(sh.base st0).m =s.m:=k4.symm
       rw [this]
       cases Nat.blt i s.m
       ·exact Xk.refl _
       ·exact hsl i
      so:=fun e' he'=>by
       obtain⟨d,hd,rfl⟩:=List.mem_map.1 he'
       rcases hen d hd with q | ⟨cs,cs',q1,q2,q3,q4⟩
       ·exact .inl q
       ·exact .inr ⟨cs,cs',by rw [DE.toE_id];exact q1,by rw [DE.toE_id];exact q2,q3,q4⟩
      nd:=by
       have:=m1.ok.nd
       show ((s3.so.map DE.toE).map AM.id).Nodup
       rw [List.map_map]
       have e:(AM.id ∘ DE.toE:DE T→AC)=DE.id:=by funext d;exact DE.toE_id d
       rw [e];exact this
      gh:=by
       simp only [AB.toSt]
       rw [m3,n4,hgh];rfl
      pre:=by
       simp only [AB.toSt]
       rw [m4,n5,BH.1 k5];rfl}
    ·cases hi
   ·cases hi
  ·cases hg
 ·cases hg
theorem IE.gen_ok {H H':A0 T} {sh:IE} {st0 st' s1:AB T} (h0:BW H st0) (hN:Nx H st0 H' st') {x:RT T sh.ts} (hg:sh.gen st0 st'=some x) (hi:sh.inst st0 (Cq sh.ts x)=some s1):Wk st'.toSt s1.toSt:=by
 obtain⟨⟨H1,a⟩,b⟩:=IW (l:=sh.frz st') hN
 exact b.trans (Wk.wkn (IE.gen1_ok h0 a hg hi))
end Go.PL
namespace Go.PL
open Go Go.RowKit
variable {T:C6}
def E5:Nat→List (DV T)→AB T→AB T
 | _,[],st=>st
 | i,v::vs,st=>E5 (i+1) vs (st.put (some i) v)
theorem Pt {H:A0 T} {st0:AB T}: ∀ {vs:List (DV T)} {i:Nat} {st:AB T} {H1:A0 T},Nx H st0 H1 st→Dk H st0.nx vs→ ∃ H',Nx H st0 H' (E5 i vs st)
 | [],_,st,H1,h,_=>⟨H1,h⟩
 | v::vs,i,st,H1,h,hv=>by
   simp only [Dk]at hv
   obtain⟨H2,h2⟩:=AB.put_spec h (some i) (DV.ok_ext h.ext h.le hv.1)
   show ∃ H',Nx H st0 H' (E5 (i+1) vs (st.put (some i) v))
   exact Pt h2 hv.2
theorem KO: ∀ (vs:List (DV T)) (i:Nat) (st:AB T),(E5 i vs st).so =st.so∧(E5 i vs st).gh =st.gh∧(E5 i vs st).pre =st.pre∧(E5 i vs st).m =st.m
 | [],_,_=>⟨rfl,rfl,rfl,rfl⟩
 | v::vs,i,st=>KO vs (i+1) (st.put (some i) v)
theorem Pu: ∀ (vs:List (DV T)) (i:Nat) (st:AB T) (j:Nat),lk (E5 i vs st).tm j=if i≤j∧j<i+vs.length then vs.getD (j - i) .u else lk st.tm j
 | [],i,st,j=>by
   rw [if_neg (by simp)];rfl
 | v::vs,i,st,j=>by
   rw [E5,Pu vs (i+1) _ j,rz]
   by_cases h1:i+1≤j∧j<i+1+vs.length
   ·rw [if_pos h1,if_pos ⟨by omega,by simp;omega⟩,show j - i=(j - (i+1))+1 by omega,List.getD_cons_succ]
   ·rw [if_neg h1]
    by_cases h2:i=j
    ·subst h2
     rw [if_pos rfl,if_pos ⟨by omega,by simp⟩,Nat.sub_self,List.getD_cons_zero]
    ·rw [if_neg h2,if_neg (by simp;omega)]
def AB.enter (st:AB T) (k:Nat) (args:List (DV T)) (n:Nat):AB T:=E5 0 args ⟨n,[],st.so,(st.m,st.tm)::st.gh,k::st.pre,st.nx⟩
theorem rC {H:A0 T} {st:AB T} (h:BW H st) (k:Nat) {args:List (DV T)} (n:Nat) (ha:Dk H st.nx args): ∃ H',Nx H st H' (st.enter k args n):=by
 refine Pt (H1:=H) (st:=⟨n,[],st.so,(st.m,st.tm)::st.gh,k::st.pre,st.nx⟩) ⟨CR.refl _ _,Nat.le_refl _,⟨fun _ _ _ hm=>by simp at hm,fun f hf=>?_,h.so,h.nd⟩⟩ ha
 rcases List.mem_cons.1 hf with rfl | hf
 ·exact h.tm
 ·exact h.gh f hf
theorem Xq {m:Nat} {tm:Tm T} {vs:List (DV T)} (hl:vs.length≤m) (h: ∀ j,lk tm j=if j<vs.length then vs.getD j .u else .u):Bt m tm=Bx vs++List.replicate (m - (Bx vs).length) .undef :=by
 rw [Gr]
 apply List.ext_getElem?
 intro i
 unfold Bt
 rw [List.getElem?_map]
 by_cases hi:i<vs.length
 ·rw [List.getElem?_range (by omega),List.getElem?_append_left (by rw [Gr];exact hi)]
  simp only [Option.map_some,h,if_pos hi]
  rw [Mp,List.getElem?_map,List.getD_eq_getElem?_getD,List.getElem?_eq_getElem hi];rfl
 ·rw [List.getElem?_append_right (by rw [Gr];omega),Gr,List.getElem?_replicate]
  by_cases hm:i<m
  ·rw [List.getElem?_range hm,if_pos (by omega)]
   simp only [Option.map_some,h,if_neg hi,DV.toV]
  ·rw [List.getElem?_eq_none (by simpa using hm),if_neg (by omega)];rfl
theorem kH {st:AB T} {k:Nat} {args:List (DV T)} {n:Nat} (hl:args.length≤n):(st.enter k args n).toSt =st.toSt.enter k (Bx args) n:=by
 obtain⟨a,b,c,d⟩:=KO args 0 (⟨n,[],st.so,(st.m,st.tm)::st.gh,k::st.pre,st.nx⟩:AB T)
 unfold AB.enter
 simp only [AB.toSt,a,b,c,d,St.enter,List.flatMap_cons]
 rw [Xq hl]
 intro j
 rw [Pu]
 simp only [Nat.zero_le,true_and,Nat.zero_add,Nat.sub_zero]
 rfl
def AB.back (st st0:AB T) (d:Option Nat) (v:DV T):Option (AB T):=match st.gh with
 | (m',tm')::g=>match Nat.beq m' st0.m with
   | true=>some (({st with m:=m',tm:=tm',gh:=g,pre:=st0.pre}:AB T).put d v)
   | false=>none
 | []=>none
theorem OB (m:Nat) (tm:Tm T):(Bt m tm).length =m:=by simp [Bt]
theorem o5 {H H1:A0 T} {st st0 b:AB T} {d:Option Nat} {v:DV T} (hN:Nx H st0 H1 st) (hv:v.ok H1 st.nx) (h:st.back st0 d v=some b):(∃ H',Nx H st0 H' b)∧b.toSt=st.toSt.back st0.m st0.pre d v.toV∧b.pre=st0.pre:=by
 unfold AB.back at h
 split at h
 ·rename_i m' tm' g hg
  split at h
  ·rename_i hm
   have hm:=Nat.eq_of_beq_eq_true hm
   injection h with h;subst h
   have hgh:=hN.ok.gh
   rw [hg]at hgh
   have n1:Nx H st0 H1 ({st with m:=m',tm:=tm',gh:=g,pre:=st0.pre}:AB T):=⟨hN.ext,hN.le,hgh (m',tm') (by simp),fun f hf=>hgh f (by simp [hf]),hN.ok.so,hN.ok.nd⟩
   refine⟨AB.put_spec n1 d hv,?_,by rw [Cc]⟩
   rw [AB.put_toSt]
   have e1:st.toSt.gh=Bt m' tm'++g.flatMap (fun f=>Bt f.1 f.2):=by
    simp only [AB.toSt,hg,List.flatMap_cons]
   unfold St.back
   rw [e1, ←hm]
   have e2:(Bt m' tm').length =m':=OB _ _
   have t1:(Bt m' tm'++g.flatMap (fun f=>Bt f.1 f.2)).take m'=Bt m' tm':=by
    conv=>lhs;arg 1;rw [←e2]
    exact List.take_left
   have t2:(Bt m' tm'++g.flatMap (fun f=>Bt f.1 f.2)).drop m'=g.flatMap (fun f=>Bt f.1 f.2):=by
    conv=>lhs;arg 1;rw [←e2]
    exact List.drop_left
   rw [t1,t2]
   rfl
  ·cases h
 ·cases h
def nE (P:Program) (st:AB T):ResultVar→M (DV T)
 | .tmp t=> .ret (st.get t)
 | .cell t Ty=>nm P Ty [] st (st.get t)
def kI (P:Program) (st:AB T):List ResultVar→M (List (DV T))
 | []=> .ret []
 | x::xs=> .bnd (nE P st x) fun v=> .bnd (kI P st xs) fun vs=> .ret (v::vs)
def rD (P:Program) (st:AB T):List ResultVar→M (DV T)
 | [x]=>nE P st x
 | xs=> .bnd (kI P st xs) fun vs=> .ret (.tup vs)
section
variable {H:A0 T} {P:Program} {st:AB T}
theorem Xr (hw:BW H st) (x:ResultVar):Yl (nE P st x) (fun v=>v.ok H st.nx∧(Oh P st.toSt x).1∧(Oh P st.toSt x).2=v.toV):=by
 cases x with
 | tmp t=>exact Yl.ret ⟨AB.get_ok hw t,trivial,by simp only [Oh];exact st.get_toSt t⟩
 | cell t Ty=>
   refine(fZ (key:=[]) hw (fun _=>AB.get_ok hw t)).mono fun v hv=>?_
   obtain⟨a,b,c⟩:=hv rfl
   simp only [Oh,st.get_toSt]
   exact⟨a,b,c⟩
theorem aP (hw:BW H st): ∀ xs:List ResultVar,Yl (kI P st xs) (fun vs=>Dk H st.nx vs∧(DJ P st.toSt xs).1∧(DJ P st.toSt xs).2=Bx vs)
 | []=>Yl.ret ⟨by simp only [Dk],trivial,by simp only [DJ,Bx]⟩
 | x::xs=>Yl.bnd (Xr hw x) fun v hv=>Yl.bnd (aP hw xs) fun vs hvs=>Yl.ret (by
   obtain⟨a,b,c⟩:=hv
   obtain⟨a',b',c'⟩:=hvs
   simp only [Dk,DJ,Bx,c,c']
   exact⟨⟨a,a'⟩,⟨b,b'⟩,trivial⟩)
theorem ud (hw:BW H st) (xs:List ResultVar):Yl (rD P st xs) (fun v=>v.ok H st.nx∧(CB P st.toSt xs).1∧(CB P st.toSt xs).2=v.toV):=by
 unfold rD
 split
 ·rename_i x
  exact Xr hw x
 ·rename_i hne
  refine Yl.bnd (aP hw _) fun vs hvs=>Yl.ret ?_
  obtain⟨a,b,c⟩:=hvs
  have:CB P st.toSt xs=((DJ P st.toSt xs).1, .tup (DJ P st.toSt xs).2):=by
   unfold CB
   split
   ·rename_i x;exact(hne x rfl).elim
   ·rfl
  rw [this]
  simp only [DV.ok,DV.toV,c]
  exact⟨a,b,trivial⟩
end
def kJ:Option (DC T)→Bool
 | some (.c .nils)=>true
 | _=>false
def AB.own (st:AB T) (i:AC) (j:Nat) (k:AC) (E:Nat):Option (AB T):=match st.new k (.row E [])with
 | some s=>match Qi s i with
   | some cs=>match kJ cs[j]? with
     | true=>some (s.setX i (.box (cs.set j (.c (.osl k)))))
     | false=>none
   | none=>none
 | none=>none
theorem gE {o:Option (DC T)} (h:kJ o=true):o=some (.c .nils):=by
 unfold kJ at h
 split at h
 ·rfl
 ·cases h
theorem rE {H:A0 T} {st st':AB T} {i k:AC} {j E:Nat} (h:BW H st) (ho:st.own i j k E=some st'):(∃ H',Nx H st H' st')∧Wk st.toSt st'.toSt∧st'.pre=st.pre:=by
 unfold AB.own at ho
 split at ho
 ·rename_i s hs
  split at ho
  ·rename_i cs hb
   split at ho
   ·rename_i hn
    injection ho with ho;subst ho
    obtain⟨⟨H1,n1⟩,h2,h3⟩:=AB.new_spec h (x:= .row E []) trivial hs
    have hc:=gE hn
    have hok:(DX.box (cs.set j (.c (.osl k)))).ok :=Co.2 fun c hm=>by
     rcases List.mem_or_eq_of_mem_set hm with q | q
     ·exact Co.1 (Qj n1.ok hb) c q
     ·subst q;simp only [DC.ok]
    obtain⟨H2,n2⟩:=AB.setX_nx n1.ok i hok
    refine⟨⟨H2,n1.trans n2⟩,?_,h3⟩
    obtain⟨hl,_,e,e1,e2,e3⟩:=FH hb
    have hnil:s.toSt.nilAt i j=true:=by
     unfold St.nilAt
     rw [hl]
     have:(A2 cs)[j]? =some .nils :=by rw [CZ,List.getElem?_map,hc];rfl
     simp only [this];rfl
    have hset:(s.setX i (.box (cs.set j (.c (.osl k))))).toSt =s.toSt.setCell i j (.osl k):=by
     have hF:=Xa (t:=s.nx) (x:= .box (cs.set j (.c (.osl k)))) (F:=fun e=>if e.id==i&& !e.pu then⟨e.id,e.row,e.cs.set j (.osl k),false⟩else e) (id:=i)
      (fun a ha=>by simp [ha]) n1.ok.nd e1 e2 (by
       rw [DE.toE_box e3]
       simp only [e2,beq_self_eq_true,Bool.not_false,Bool.and_self,if_true,DE.toE,CZ,List.map_set,DC.toC])
     simp only [AB.toSt,AB.setX,St.setCell,St.mk.injEq,and_true,true_and]
     exact hF.symm
    intro F a w G hR
    have q1:=hR.nilRow k E (T.sz E)
    rw [hset]
    have e5:(⟨k,0,DX.row E []⟩:DE T).toE =⟨k,some (E,T.sz E,0),[],true⟩:=rfl
    rw [e5]at h2
    exact⟨_,(q1.less h2).setCell hnil (by simp [CX])⟩
   ·cases ho
  ·cases ho
 ·cases ho
def kK:List (AC×Nat×AC×Nat)→AB T→Option (AB T)
 | [],st=>some st
 | (i,j,k,E)::r,st=>match st.own i j k E with
   | some s=>kK r s
   | none=>none
theorem aQ {H0:A0 T} {st0:AB T}: ∀ {l:List (AC×Nat×AC×Nat)} {st st':AB T} {H:A0 T},Nx H0 st0 H st→kK l st=some st'→(∃ H',Nx H0 st0 H' st')∧Wk st.toSt st'.toSt∧st'.pre=st.pre
 | [],st,st',H,hN,h=>by
   simp only [kK,Option.some.injEq]at h
   subst h
   exact⟨⟨H,hN⟩,Wk.less (Cb.refl _),rfl⟩
 | (i,j,k,E)::r,st,st',H,hN,h=>by
   simp only [kK]at h
   split at h
   ·rename_i s hs
    obtain⟨⟨H1,n1⟩,w1,p1⟩:=rE hN.ok hs
    obtain⟨a,b,c⟩:=aQ (hN.trans n1) h
    exact⟨a,w1.trans b,c.trans p1⟩
   ·cases h
end Go.PL
namespace Go.PL
open Go Go.RowKit
variable {T:C6}
def jn {X R:Type} (J:X→Option R) (body:(X→Option R)→Option R):Option R:=body J
mutual
inductive Hn where
 | n
 | s (a b:Hn)
 | j (sh:IE) (a b:Hn)
 | i (a b:Hn)
 | l (sh:IE) (xs:List (Nat×IE)) (b:Hn)
 | r (fz:List AC) (ow:List (AC×Nat×AC×Nat)) (il:Hl)
 | x
inductive Hl where
 | n
 | c (k:Nat) (h:Hn) (r:Hl)
 | j (k:Nat) (sh:IE) (h:Hn) (r:Hl)
end
def Hn.a:Hn→Hn
 | .s a _=>a
 | .i a _=>a
 | _=> .n
def Hn.b:Hn→Hn
 | .s _ b=>b
 | .i _ b=>b
 | _=> .n
def rF:Hl→Nat→Option (Option IE×Hn)
 | .n,_=>none
 | .c k h r,i=>match Nat.beq k i with
   | true=>some (none,h)
   | false=>rF r i
 | .j k sh h r,i=>match Nat.beq k i with
   | true=>some (some sh,h)
   | false=>rF r i
def ue (T:C6):=(R:Type)→Code→Hn→AB T→(Exit→AB T→Option R)→Option R
def rG (P:Program) (I:World→Prop) (rec:ue T):Prop:= ∀ (R:Type) (c:Code) (h:Hn) (st:AB T) (H:A0 T) (K:Exit→AB T→Option R) (r:R),BW H st→rec R c h st K=some r→
 ∀ (F:Fr) (Q:Exit→St→Prop),F.I=I→(∀ H' e st',Nx H st H' st'→K e st'=some r→Q e st'.toSt)→Aj P F c st.toSt Q
def VO:DV T→Option (FuncId×Bool×List (DC T))
 | .c (.c (.fn f))=>some (f,false,[])
 | .c (.clo b f cs)=>some (f,b,cs)
 | _=>none
def NU (b:Bool) (caps vs:List (DV T)):List (DV T):=match b with
 | true=>caps++vs
 | false=>vs++caps
def o6:Option Nat→Nat
 | some d=>d
 | none=>0
def rH (P:Program) (fn:Func) (o:Oper) (st:AB T) (R:Type) (K:AB T→Option R) (e:Exit) (stc:AB T):Option R:=match e with
 | .normal =>rD P stc fn.results.toList R fun v=>match stc.back st o.dst v with
   | some s=>K s
   | none=>none
 | .ret =>rD P stc fn.results.toList R fun v=>match stc.back st o.dst v with
   | some s=>K s
   | none=>none
 | _=>none
def uf (P:Program) (rec:ue T) (o:Oper) (h:Hn) (st:AB T) (R:Type) (K:AB T→Option R):Option R:=
 match o.op,o.guard with
 | .call c,none=>match c.callee with
   | .value x=>match VO (st.ev x),IS st [] c.args.toList with
     | some (f,b,cs),some vs=>match P.funcs[f]? with
       | some fn=>match fn.body with
         | some body=>match ent P f&&Nat.ble (NU b (cs.map DV.c) vs).length fn.ntmps with
           | true=>rec R body h (st.enter (o6 o.dst) (NU b (cs.map DV.c) vs) fn.ntmps) (rH P fn o st R K)
           | false=>none
         | none=>none
       | none=>none
     | _,_=>none
   | _=>none
 | _,_=>none
def o7 {P:Program} {I:World→Prop} (Γ:List (CE T P I)) (rec:ue T) (ops:Array Oper) (il:Hl):List Oper→Nat→AB T→(R:Type)→(AB T→Option R)→Option R
 | [],_,st,_,K=>K st
 | o::rest,k,st,R,K=>match rF il k with
   | none=>yG Γ ops o st R fun st'=>o7 Γ rec ops il rest (k+1) st' R K
   | some (none,h)=>uf P rec o h st R fun st'=>o7 Γ rec ops il rest (k+1) st' R K
   | some (some sh,h)=>jn (fun v:RT T sh.ts=>match sh.inst st (Cq sh.ts v)with
    | some s=>o7 Γ rec ops il rest (k+1) s R K
    | none=>none) (fun j=>uf P rec o h st R fun b=>match sh.gen st b with
    | some v=>j v
    | none=>none)
section
variable {H:A0 T} {P:Program} {I:World→Prop} {Γ:List (CE T P I)} {rec:ue T} {st:AB T} {ops:Array Oper}
theorem Uz {n:Nat} {a b:List (DV T)} (h:Dk H n a) (k:Dk H n b):Dk H n (a++b):=HQ.2 fun v hv=>by
 rcases List.mem_append.1 hv with q | q
 ·exact HQ.1 h v q
 ·exact HQ.1 k v q
theorem UA (a b:List (DV T)):Bx (a++b)=Bx a++Bx b:=by simp [Mp]
theorem aR (cs:List (DC T)):Bx (cs.map DV.c)=(A2 cs).map V.c:=by
 simp only [Mp,CZ,List.map_map]
 exact List.map_congr_left fun c _=>by simp only [Function.comp,DV.toV]
theorem nF (hrec:rG P I rec) (hw:BW H st) {o:Oper} {h:Hn} {R:Type} {K:AB T→Option R} {r:R} (hr:uf P rec o h st R K=some r)
 {PK:St→Prop} (hK: ∀ H' st',Nx H st H' st'→st'.pre=st.pre→K st'=some r→PK st'.toSt):o.guard=none∧YE P I o st.toSt PK:=by
 unfold uf at hr
 split at hr
 ·rename_i c hop hgd
  refine⟨hgd,?_⟩
  split at hr
  ·rename_i x hcal
   split at hr
   ·rename_i f b cs vs hf hvs
    split at hr
    ·rename_i fn hfn
     split at hr
     ·rename_i body hbody
      split at hr
      ·rename_i hm
       simp only [Bool.and_eq_true,Nat.ble_eq]at hm
       obtain⟨hent,hlen⟩:=hm
       obtain⟨a1,a2,a3⟩:=Da (key:=[]) hw (SD _ _) rfl hvs
       change (st.toSt.args true c.args.toList).1 at a2
       change (st.toSt.args true c.args.toList).2=Bx vs at a3
       have hev:=AB.ev_ok hw x
       have hevt:=st.ev_toSt x
       have hcs:Cm cs:=by
        unfold VO at hf
        split at hf
        ·simp only [Option.some.injEq,Prod.mk.injEq]at hf
         obtain⟨rfl,rfl,rfl⟩:=hf
         simp [Cm]
        ·rename_i b' f' cs' he
         simp only [Option.some.injEq,Prod.mk.injEq]at hf
         obtain⟨rfl,rfl,rfl⟩:=hf
         rw [he]at hev
         simpa only [DV.ok,DC.ok] using hev
        ·cases hf
       have hcaps:Dk H st.nx (cs.map DV.c):=HQ.2 fun v hv=>by
        obtain⟨d,h1,rfl⟩:=List.mem_map.1 hv
        simp only [DV.ok]
        exact Co.1 hcs d h1
       have hargs:Dk H st.nx (NU b (cs.map DV.c) vs):=by
        cases b
        ·exact Uz a1 hcaps
        ·exact Uz hcaps a1
       obtain⟨H1,n1⟩:=rC hw (o6 o.dst) fn.ntmps hargs
       have hst:=kH (st:=st) (k:=o6 o.dst) hlen
       have hm:st.toSt.tm.length=st.m:=OB _ _
       have main: ∀ w0 av old gv,Aj P ⟨w0,av,old,I,gv⟩ body (st.toSt.enter (o6 o.dst) (Bx (NU b (cs.map DV.c) vs)) fn.ntmps) (p6 P fn.results.toList st.toSt.tm.length st.toSt.pre o.dst PK):=by
        intro w0 av old gv
        rw [←hst]
        refine hrec _ _ _ _ _ _ _ n1.ok hr ⟨w0,av,old,I,gv⟩ _ rfl fun H' e stc hN hE=>?_
        have fin:rD P stc fn.results.toList R (fun v=>match stc.back st o.dst v with | some s=>K s | none=>none)=some r→
         (CB P stc.toSt fn.results.toList).1∧PK (stc.toSt.back st.toSt.tm.length st.toSt.pre o.dst (CB P stc.toSt fn.results.toList).2):=by
         intro hE
         obtain⟨v,⟨v1,v2,v3⟩,hE⟩:=ud hN.ok fn.results.toList R _ r hE
         split at hE
         ·rename_i s hs
          obtain⟨⟨H2,b1⟩,b2,b3⟩:=o5 (n1.trans hN) v1 hs
          refine⟨v2,?_⟩
          have:=hK H2 s b1 b3 hE
          rw [b2]at this
          rw [v3,hm]
          exact this
         ·cases hE
        cases e<;>simp only [p6]<;>first
         | exact fin hE
         | (simp [rH]at hE;done)
       cases b with
       | false=>
         have hcv:P5 st.toSt x=some (f,A2 cs):=by
          unfold P5
          rw [hevt]
          unfold VO at hf
          split at hf
          ·rename_i f' he
           simp only [Option.some.injEq,Prod.mk.injEq]at hf
           obtain⟨rfl,_,rfl⟩:=hf
           rw [he];simp only [DV.toV,DC.toC,A2]
          ·rename_i b' f' cs' he
           simp only [Option.some.injEq,Prod.mk.injEq]at hf
           obtain⟨rfl,rfl,rfl⟩:=hf
           rw [he];simp only [DV.toV,DC.toC]
          ·cases hf
         refine YE.inline (o6 o.dst) hop hcal rfl (s:=(st.toSt.args true c.args.toList).1) (vs:=Bx vs) (by rw [←a3]) a2 hcv hent hfn hbody rfl (rs:=fn.results.toList) (by simp) ?_
         intro w0 av old gv
         have:=main w0 av old gv
         rw [NU,UA,aR]at this
         exact this
       | true=>
         have hcv:st.toSt.ev x= .c (.bmv f (A2 cs)):=by
          rw [hevt]
          unfold VO at hf
          split at hf
          ·simp at hf
          ·rename_i b' f' cs' he
           simp only [Option.some.injEq,Prod.mk.injEq]at hf
           obtain⟨rfl,rfl,rfl⟩:=hf
           rw [he];simp only [DV.toV,DC.toC]
          ·cases hf
         refine YE.inlineB (o6 o.dst) hop hcal rfl (s:=(st.toSt.args true c.args.toList).1) (vs:=Bx vs) (by rw [←a3]) a2 hcv hent hfn hbody rfl (rs:=fn.results.toList) (by simp) ?_
         intro w0 av old gv
         have:=main w0 av old gv
         rw [NU,UA,aR]at this
         exact this
      ·cases hr
     ·cases hr
    ·cases hr
   ·cases hr
  ·cases hr
 ·cases hr
theorem VP (hrec:rG P I rec) (il:Hl): ∀ (l:List Oper) (k:Nat) (st:AB T) (H:A0 T),BW H st→ ∀ (R:Type) (K:AB T→Option R) (r:R),o7 Γ rec ops il l k st R K=some r→
 ∀ PK:St→Prop,(∀ H' st',Nx H st H' st'→st'.pre=st.pre→K st'=some r→PK st'.toSt)→CI P I ops l st.toSt PK
 | [],k,st,H,hw,R,K,r,hr,PK,hK=>hK H st (Nx.refl hw) rfl hr
 | o::rest,k,st,H,hw,R,K,r,hr,PK,hK=>by
   simp only [o7]at hr
   split at hr
   ·obtain⟨st',⟨⟨H1,n1⟩,p1,w1⟩,hr⟩:=rx hw o R _ r hr
    refine w1 _ ?_
    exact VP hrec il rest (k+1) st' H1 n1.ok R K r hr PK fun H' s n p q=>hK H' s (n1.trans n) (p.trans p1) q
   ·rename_i h _
    obtain⟨g1,g2⟩:=nF (PK:=fun s=>CI P I ops rest s PK) hrec hw hr fun H' s n p q=>VP hrec il rest (k+1) s H' n.ok R K r q PK fun H'' s' n' p' q'=>hK H'' s' (n.trans n') (p'.trans p) q'
    simp only [CI,mS,g1]
    exact .inl g2
   ·rename_i sh h _
    unfold jn at hr
    obtain⟨g1,g2⟩:=nF (PK:=fun s=> ∃ s',Wk s s'∧CI P I ops rest s' PK) hrec hw hr fun H' s n p q=>by
     split at q
     ·rename_i v hg
      dsimp only at q
      split at q
      ·rename_i s' hi
       obtain⟨H2,n2⟩:=IE.inst_nx hw (EE sh.ts v) hi
       have hp:s'.pre=st.pre:=by
        unfold IE.inst at hi
        split at hi
        ·rename_i s1 us h1
         split at hi
         ·rename_i s2 us2 h2
          injection hi with hi;subst hi
          obtain⟨⟨Ha,na⟩,nb,_,_,np,_⟩:=IV (sh.base_nx hw) (EE sh.ts v) h1
          obtain⟨_,_,_,mp,_⟩:=KN na nb h2
          rw [mp,np];rfl
         ·cases hi
        ·cases hi
       exact⟨s'.toSt,IE.gen_ok hw n hg hi,VP hrec il rest (k+1) s' H2 n2.ok R K r q PK fun H'' s'' n' p' q'=>hK H'' s'' (n2.trans n') (p'.trans hp) q'⟩
      ·cases q
     ·cases q
    simp only [CI,mS,g1]
    refine .inl ?_
    intro F a w G Q hI hR
    exact Oper.wp_mono (fun _ _ ⟨_,G',⟨s',hwk,hp⟩,hR'⟩=>by
     obtain⟨G'',q⟩:=hwk _ _ _ _ hR'
     exact⟨s',G'',hp,q⟩) (g2 F a w G Q hI hR)
end
end Go.PL
namespace Go.PL
open Go Go.RowKit
variable {T:C6}
def ET (T:C6):List (Nat×IE)→Type
 | []=>Empty
 | [x]=>RT T x.2.ts
 | x::y::r=>RT T x.2.ts⊕ET T (y::r)
def rI {α β:Type} (f:α→β):Option α→Option β
 | some x=>some (f x)
 | none=>none
def o8 (st0 st':AB T) (k:Nat):(xs:List (Nat×IE))→Option (ET T xs)
 | []=>none
 | [x]=>match Nat.beq x.1 k with
   | true=>x.2.gen st0 st'
   | false=>none
 | x::y::r=>match Nat.beq x.1 k with
   | true=>rI Sum.inl (x.2.gen st0 st')
   | false=>rI Sum.inr (o8 st0 st' k (y::r))
def aS {R:Type} (st0:AB T) (K:Nat→AB T→Option R):(xs:List (Nat×IE))→ET T xs→Option R
 | []=>fun o=>nomatch o
 | [x]=>fun v=>match x.2.inst st0 (Cq x.2.ts v)with
   | some s=>K x.1 s
   | none=>none
 | x::y::r=>Sum.elim (fun v=>match x.2.inst st0 (Cq x.2.ts v)with
   | some s=>K x.1 s
   | none=>none) (aS st0 K (y::r))
def kL:Nat→Exit
 | 0=> .ret
 | n+1=> .exit n
def NV:Exit→Option Nat
 | .ret =>some 0
 | .exit n=>some (n+1)
 | _=>none
theorem kM {e:Exit} {k:Nat} (h:NV e=some k):kL k=e:=by
 cases e<;>simp only [NV,Option.some.injEq]at h<;>first
  | (subst h;rfl)
  | (cases h;done)
theorem SF {α β:Type} {f:α→β} {o:Option α} {y:β} (h:rI f o=some y): ∃ x,o=some x∧f x=y:=by
 cases o with
 | none=>cases h
 | some x=>injection h with h;exact⟨x,rfl,h⟩
theorem nG {H H':A0 T} {R:Type} {st0 st':AB T} {k:Nat} {K:Nat→AB T→Option R} {r:R} (h0:BW H st0) (hN:Nx H st0 H' st'): ∀ {xs:List (Nat×IE)} {o:ET T xs},o8 st0 st' k xs=some o→aS st0 K xs o=some r→
 ∃ s H2,Wk st'.toSt s.toSt∧Nx H st0 H2 s∧K k s=some r
 | [],o,h,_=>by cases h
 | [x],o,h,he=>by
   simp only [o8]at h
   split at h
   ·rename_i hb
    have hb:=Nat.eq_of_beq_eq_true hb
    subst hb
    simp only [aS]at he
    split at he
    ·rename_i s hi
     obtain⟨H2,n2⟩:=IE.inst_nx h0 (EE _ _) hi
     exact⟨s,H2,IE.gen_ok h0 hN h hi,n2,he⟩
    ·cases he
   ·cases h
 | x::y::r',o,h,he=>by
   simp only [o8]at h
   split at h
   ·rename_i hb
    have hb:=Nat.eq_of_beq_eq_true hb
    subst hb
    obtain⟨v,h1,rfl⟩:=SF h
    simp only [aS,Sum.elim_inl]at he
    split at he
    ·rename_i s hi
     obtain⟨H2,n2⟩:=IE.inst_nx h0 (EE _ _) hi
     exact⟨s,H2,IE.gen_ok h0 hN h1 hi,n2,he⟩
    ·cases he
   ·obtain⟨v,h1,rfl⟩:=SF h
    simp only [aS,Sum.elim_inr]at he
    exact nG h0 hN h1 he
theorem o9 {σ ρ:Type} {B:σ→Option (σ⊕ρ)} {n:Nat} {s:σ} {o:ρ} (h:PL.iter B n s=some o): ∃ z,B s=some z:=by
 cases n with
 | zero=>cases h
 | succ n=>
   simp only [PL.iter]at h
   cases hb:B s with
   | some z=>exact⟨z,rfl⟩
   | none=>rw [hb]at h;cases h
section
variable {P:Program} {I:World→Prop}
def wy (Γ:List (CE T P I)) (rec:ue T) (ops:Array Oper) (dr:Bool) (fz:List AC) (ow:List (AC×Nat×AC×Nat)) (il:Hl) (st:AB T) (R:Type) (K:AB T→Option R):Option R:=
 match dr with
 | false=>o7 Γ rec ops il ops.toList 0 (Jr fz st) R fun s=>match kK ow s with
   | some s'=>K s'
   | none=>none
 | true=>match Region.lexB .any ops with
   | true=>ry Γ ops ops.toList (Jr fz st) R fun s=>match kK ow s with
     | some s'=>K s'
     | none=>none
   | false=>none
def wz:Hn→List AC×List (AC×Nat×AC×Nat)×Hl
 | .r fz ow il=>(fz,ow,il)
 | _=>([],[], .n)
def rJ {R:Type} (N:AB T→Option R) (K:Exit→AB T→Option R) (e:Exit) (s:AB T):Option R:=match e with
 | .normal =>N s
 | e=>K e s
def rK {R:Type} (j:Nat) (K:Exit→AB T→Option R) (e:Exit) (s:AB T):Option R:=match e with
 | .exit i=>match Nat.beq i j with
   | true=>K .normal s
   | false=>K (.exit i) s
 | e=>K e s
def OC {α:Type} (h:Hn) (o:Option α):Option α:=match h with
 | .x =>none
 | _=>o
theorem DQ {α:Type} {h:Hn} {o:Option α} {x:α} (q:OC h o=some x):o=some x:=by
 unfold OC at q
 split at q
 ·cases q
 ·exact q
def J3 (Γ:List (CE T P I)) (rec:ue T):Code→Hn→AB T→(R:Type)→(Exit→AB T→Option R)→Option R
 | .skip,h,st,_,K=>OC h (K .normal st)
 | .ret,h,st,_,K=>OC h (K .ret st)
 | .exit j,h,st,_,K=>OC h (K (.exit j) st)
 | .label _,h,st,_,K=>OC h (K .normal st)
 | .scope c,h,st,R,K=>OC h (J3 Γ rec c h st R fun e s=>match NV e with
   | some _=>K e s
   | none=>match e with
     | .normal =>K .normal s
     | _=>none)
 | .block j c,h,st,R,K=>OC h (J3 Γ rec c h st R (rK j K))
 | .cond c x y,h,st,R,K=>OC h (match st.ev c with
   | .c (.k .bool b)=>if(show Bool from b)=true then J3 Γ rec x h.a st R K else J3 Γ rec y h.b st R K
   | _=>none)
 | .seq a b,h,st,R,K=>match h with
   | .j sh ha hb=>jn (fun v:RT T sh.ts=>match sh.inst st (Cq sh.ts v)with
    | some s=>J3 Γ rec b hb s R K
    | none=>none) (fun j=>J3 Γ rec a ha st R (rJ (fun s=>match sh.gen st s with
      | some v=>j v
      | none=>none) K))
   | .x =>none
   | h=>J3 Γ rec a h.a st R (rJ (fun s=>J3 Γ rec b h.b s R K) K)
 | .region _ ops dr,h,st,R,K=>OC h (wy Γ rec ops dr (wz h).1 (wz h).2.1 (wz h).2.2 st R (K .normal))
 | .loop c,h,st,R,K=>match h with
   | .l sh xs hb=>match sh.gen st st with
     | some v0=>(iter (fun v:RT T sh.ts=>match sh.inst st (Cq sh.ts v)with
      | some s=>J3 Γ rec c hb s (RT T sh.ts⊕ET T xs) fun e s'=>match e with
        | .normal =>match sh.gen st s' with
          | some v'=>match sh.inst st (Cq sh.ts v')with
            | some _=>some (.inl v')
            | none=>none
          | none=>none
        | e=>match NV e with
          | some k=>rI Sum.inr (o8 st s' k xs)
          | none=>none
      | none=>none) FU v0).bind (aS st (fun k s=>K (kL k) s) xs)
     | none=>none
   | _=>none
 | _,_,_,_,_=>none
theorem Aj.wkQ {F:Fr} {c:Code} {st:St} {Q:Exit→St→Prop} (h:Aj P F c st (fun e s=> ∃ s',Wk s s'∧Q e s')):Aj P F c st Q:=fun a w G hR=>
 Code.wp_mono (fun _ _ _ ⟨_,G',⟨s',hwk,hq⟩,hR'⟩=>by
  obtain⟨G'',q⟩:=hwk _ _ _ _ hR'
  exact⟨s',G'',hq,q⟩) (h a w G hR)
theorem ug {Γ:List (CE T P I)} {rec:ue T} (hfol:P.follows .mixedOrders =true) (hrec:rG P I rec) {ops:Array Oper} {id:Nat} {dr:Bool} {fz:List AC} {ow:List (AC×Nat×AC×Nat)} {il:Hl} {st:AB T} {H:A0 T} (hw:BW H st) {R:Type} {K:AB T→Option R} {r:R}
 (hr:wy Γ rec ops dr fz ow il st R K=some r) {F:Fr} (hI:F.I=I) {Q:Exit→St→Prop} (hK: ∀ H' st',Nx H st H' st'→K st'=some r→Q .normal st'.toSt):Aj P F (.region id ops dr) st.toSt Q:=by
 obtain⟨⟨H1,n1⟩,w1⟩:=IW (l:=fz) (Nx.refl hw)
 refine Aj.wk w1 (Aj.wkQ ?_)
 have fin: ∀ H' s,Nx H1 (Jr fz st) H' s→(match kK ow s with | some s'=>K s' | none=>none)=some r→ ∃ s',Wk s.toSt s'∧Q .normal s':=by
  intro H' s n q
  split at q
  ·rename_i s' hs
   obtain⟨⟨H2,n2⟩,w2,_⟩:=aQ (n1.trans n) hs
   exact⟨s'.toSt,w2,hK H2 s' n2 q⟩
  ·cases q
 unfold wy at hr
 split at hr
 ·refine Aj.region ?_
  rw [hI]
  exact VP hrec il _ 0 _ H1 n1.ok R _ r hr (fun s=> ∃ s',Wk s s'∧Q .normal s') fun H' s n _ q=>fin H' s n q
 ·split at hr
  ·rename_i hl
   refine Aj.regionQ hfol hl ?_
   rw [hI]
   obtain⟨s,⟨⟨H2,n2⟩,_,w2⟩,hr⟩:=gB (Γ:=Γ) (ops:=ops) ops.toList (Jr fz st) H1 n1.ok R _ r hr
   exact w2 _ (fin H2 s n2 hr)
  ·cases hr
theorem E6 {Γ:List (CE T P I)} {rec:ue T} (hfol:P.follows .mixedOrders =true) (hrec:rG P I rec): ∀ (c:Code) (h:Hn) (st:AB T) (H:A0 T) (R:Type) (K:Exit→AB T→Option R) (r:R),BW H st→J3 Γ rec c h st R K=some r→
 ∀ (F:Fr) (Q:Exit→St→Prop),F.I=I→(∀ H' e st',Nx H st H' st'→K e st'=some r→Q e st'.toSt)→Aj P F c st.toSt Q
 | .skip,h,st,H,R,K,r,hw,hr,F,Q,hI,hK=>Aj.skip (hK H _ st (Nx.refl hw) (DQ hr))
 | .ret,h,st,H,R,K,r,hw,hr,F,Q,hI,hK=>Aj.ret (hK H _ st (Nx.refl hw) (DQ hr))
 | .exit j,h,st,H,R,K,r,hw,hr,F,Q,hI,hK=>Aj.exit (hK H _ st (Nx.refl hw) (DQ hr))
 | .label j,h,st,H,R,K,r,hw,hr,F,Q,hI,hK=>Aj.label (hK H _ st (Nx.refl hw) (DQ hr))
 | .scope c,h,st,H,R,K,r,hw,hr,F,Q,hI,hK=>by
   refine Aj.scope (E6 hfol hrec c h st H R _ r hw (DQ hr) F _ hI fun H' e st' n q=>?_)
   cases e<;>simp only [NV]at q<;>first
    | (cases q;done)
    | exact hK H' _ st' n q
 | .block j c,h,st,H,R,K,r,hw,hr,F,Q,hI,hK=>by
   refine Aj.block (E6 hfol hrec c h st H R _ r hw (DQ hr) F _ hI fun H' e st' n q=>?_)
   cases e with
   | exit i=>
     simp only [rK]at q
     simp only [Bz]
     split at q
     ·rename_i hb
      rw [if_pos (Nat.eq_of_beq_eq_true hb)]
      exact hK H' _ st' n q
     ·rename_i hb
      rw [if_neg (fun e=>by subst e;simp at hb)]
      exact hK H' _ st' n q
   | _=>exact hK H' _ st' n q
 | .cond c x y,h,st,H,R,K,r,hw,hr,F,Q,hI,hK=>by
   simp only [J3]at hr
   replace hr:=DQ hr
   split at hr
   ·rename_i b hb
    have hev:=st.ev_toSt c
    rw [hb]at hev
    refine Aj.cond (b:=b) hev (fun e=>?_) (fun e=>?_)
    ·rw [if_pos e]at hr
     exact E6 hfol hrec x h.a st H R K r hw hr F Q hI hK
    ·rw [if_neg (by rw [show (show Bool from b)=b from rfl,e];simp)]at hr
     exact E6 hfol hrec y h.b st H R K r hw hr F Q hI hK
   ·cases hr
 | .region id ops dr,h,st,H,R,K,r,hw,hr,F,Q,hI,hK=>by
   simp only [J3]at hr
   exact ug hfol hrec hw (DQ hr) hI fun H' st' n q=>hK H' _ st' n q
 | .seq a b,h,st,H,R,K,r,hw,hr,F,Q,hI,hK=>by
   simp only [J3]at hr
   split at hr
   ·rename_i sh ha hb
    unfold jn at hr
    refine Sj (X:=RT T sh.ts) (fun v=>match sh.inst st (Cq sh.ts v)with | some s=>s.toSt | none=>st.toSt) (fun v=> ∃ s,sh.inst st (Cq sh.ts v)=some s∧J3 Γ rec b hb s R K=some r) ?_ ?_
    ·refine E6 hfol hrec a ha st H R _ r hw hr F _ hI fun H' e st' n q=>?_
     cases e with
     | normal=>
       simp only [rJ]at q
       simp only [BO]
       split at q
       ·rename_i v hg
        split at q
        ·rename_i s hi
         exact⟨v,⟨s,hi,q⟩,by rw [hi];exact IE.gen_ok hw n hg hi⟩
        ·cases q
       ·cases q
     | _=>exact hK H' _ st' n q
    ·rintro v ⟨s,hi,q⟩
     rw [hi]
     obtain⟨H2,n2⟩:=IE.inst_nx hw (EE _ _) hi
     exact E6 hfol hrec b hb s H2 R K r n2.ok q F Q hI fun H' e st' n' q'=>hK H' e st' (n2.trans n') q'
   ·cases hr
   ·refine Aj.seq (E6 hfol hrec a _ st H R _ r hw hr F _ hI fun H' e st' n q=>?_)
    cases e with
    | normal=>exact E6 hfol hrec b _ st' H' R K r n.ok q F Q hI fun H'' e st'' n' q'=>hK H'' e st'' (n.trans n') q'
    | _=>exact hK H' _ st' n q
 | .loop c,h,st,H,R,K,r,hw,hr,F,Q,hI,hK=>by
   simp only [J3]at hr
   split at hr
   ·rename_i sh xs hb
    split at hr
    ·rename_i v0 hg0
     obtain⟨o,hi,hx⟩:=bS hr
     have hinst: ∃ s,sh.inst st (Cq sh.ts v0)=some s:=by
      obtain⟨z,hz⟩:=o9 hi
      split at hz
      ·rename_i s hs;exact⟨s,hs⟩
      ·cases hz
     obtain⟨s0,hs0⟩:=hinst
     refine It (fun v=>match sh.inst st (Cq sh.ts v)with | some s=>s.toSt | none=>st.toSt) hi ?_ fun v z hz ho=>?_
     ·rw [hs0]
      exact IE.gen_ok hw (Nx.refl hw) hg0 hs0
     ·split at hz
      ·rename_i s hs
       obtain⟨H2,n2⟩:=IE.inst_nx hw (EE _ _) hs
       have exits: ∀ (H':A0 T) (e:Exit) (st':AB T) (k:Nat),Nx H2 s H' st'→NV e=some k→rI Sum.inr (o8 st st' k xs)=some z→ ∃ s'',Wk st'.toSt s''∧Q e s'':=by
        intro H' e st' k n he q
        obtain⟨o',h1,h2⟩:=SF q
        have:=ho o' h2.symm
        subst this
        obtain⟨s'',H3,w3,n3,k3⟩:=nG (K:=fun k s=>K (kL k) s) hw (n2.trans n) h1 hx
        rw [kM he]at k3
        exact⟨s''.toSt,w3,hK H3 e s'' n3 k3⟩
       have main:=E6 hfol hrec c hb s H2 _ _ z n2.ok hz F (fun e s'=>match e with
        | .normal => ∃ v',z= .inl v'∧Wk s' (match sh.inst st (Cq sh.ts v')with | some s=>s.toSt | none=>st.toSt)
        | e=> ∃ s'',Wk s' s''∧Q e s'') hI fun H' e st' n q=>by
          cases e with
          | normal=>
            simp only at q
            split at q
            ·rename_i v' hg
             split at q
             ·rename_i s1 hs1
              injection q with q
              refine⟨v',q.symm,?_⟩
              rw [hs1]
              exact IE.gen_ok hw (n2.trans n) hg hs1
             ·cases q
            ·cases q
          | ret=>exact exits H' _ st' _ n rfl q
          | exit i=>exact exits H' _ st' _ n rfl q
          | goto l=>cases q
          | panic ch=>cases q
          | outgrown=>cases q
       refine Aj.wkQ (main.mono fun e s' q=>?_)
       cases e with
       | normal=>exact⟨s',Wk.less (Cb.refl _),q⟩
       | _=>exact q
      ·cases hz
    ·cases hr
   ·cases hr
 | .rangeFunc ..,h,st,H,R,K,r,hw,hr,F,Q,hI,hK=>by simp only [J3]at hr;cases hr
 | .goto _,h,st,H,R,K,r,hw,hr,F,Q,hI,hK=>by simp only [J3]at hr;cases hr
 | .refuse _,h,st,H,R,K,r,hw,hr,F,Q,hI,hK=>by simp only [J3]at hr;cases hr
end
end Go.PL
namespace Go.PL
open Go Go.RowKit
variable {T:C6}
def OD:(ts:List VT)→XS T ts→List (DV T)
 | [],_=>[]
 | t::ts,x=>LF t x.1::OD ts x.2
theorem aU: ∀ (ts:List VT) (x:XS T ts),Bx (OD ts x)=GZ ts x
 | [],_=>by simp only [OD,Bx,GZ]
 | t::ts,x=>by simp only [OD,Bx,GZ,NR,aU ts]
theorem gG {H:A0 T} {n:Nat}: ∀ (ts:List VT) (x:XS T ts),Dk H n (OD ts x)
 | [],_=>by simp only [OD,Dk]
 | t::ts,x=>by simp only [OD,Dk,Qr,gG ts,and_self]
def cS (args:List (DV T)) (n:Nat):AB T:=E5 0 args ⟨n,[],[],[],[],0⟩
theorem pc {args:List (DV T)} {n:Nat} (ha: ∀ H:A0 T,Dk H 0 args): ∃ H,BW H (cS args n):=by
 let H0:A0 T:=⟨fun _=> .u,fun _=>⟨[],0, .box []⟩⟩
 have h0:BW H0 (⟨n,[],[],[],[],0⟩:AB T):=⟨fun _ _ _ hm=>by simp at hm,fun _ hm=>by simp at hm,fun _ hm=>by simp at hm,by simp⟩
 obtain⟨H,hN⟩:=Pt (i:=0) (Nx.refl h0) (ha H0)
 exact⟨H,hN.ok⟩
theorem gH {args:List (DV T)} {n:Nat} (hl:args.length≤n):(cS args n).toSt =St.start (Bx args) n:=by
 obtain⟨a,b,c,d⟩:=KO args 0 (⟨n,[],[],[],[],0⟩:AB T)
 unfold cS
 simp only [AB.toSt,a,b,c,d,St.start,List.map_nil,List.flatMap_nil]
 rw [Xq hl]
 intro j
 rw [Pu]
 simp only [Nat.zero_le,true_and,Nat.zero_add,Nat.sub_zero]
 rfl
section
variable {H:A0 T} {P:Program} {I:World→Prop} {st:AB T}
def wA (P:Program) (st:AB T) (t:VT) (x:ResultVar):M (HY T t):= .bnd (nE P st x) fun v=>match cI st v with
 | some w=> .sm (rv t w)
 | none=> .no
def aV (P:Program) (st:AB T):(ts:List VT)→List ResultVar→M (RT T ts)
 | [],[]=> .ret ()
 | [t],[x]=>wA P st t x
 | t::u::ts,x::xs=> .bnd (wA P st t x) fun a=> .bnd (aV P st (u::ts) xs) fun b=> .ret (a,b)
 | _,_=> .no
theorem pd (x:ResultVar) (s:St):P4 P s x=((Oh P s x).1,BM s (Oh P s x).2):=by cases x<;>rfl
theorem nH (hw:BW H st) (t:VT) (x:ResultVar):Yl (wA P st t x) (fun r=>(P4 P st.toSt x).1∧(P4 P st.toSt x).2=IT t r):=
 Yl.bnd (Xr hw x) fun v hv=>by
  obtain⟨a,b,c⟩:=hv
  split
  ·rename_i w hs
   refine Yl.sm fun r hr=>?_
   rw [pd]
   exact⟨b,by simp only;rw [c,Uv hs,Xd hr]⟩
  ·exact Yl.no
theorem gI (hw:BW H st): ∀ (ts:List VT) (xs:List ResultVar),Yl (aV P st ts xs) (fun r=>(EN P st.toSt xs).1∧(EN P st.toSt xs).2=DO ts r∧xs.length=ts.length)
 | [],[]=>Yl.ret ⟨trivial,by simp only [EN,DO],rfl⟩
 | [t],[x]=>(nH hw t x).mono fun r h=>⟨⟨h.1,trivial⟩,congrArg (fun z=>[z]) h.2,rfl⟩
 | t::u::ts,x::xs=>Yl.bnd (nH hw t x) fun a ha=>Yl.bnd (gI hw (u::ts) xs) fun b hb=>Yl.ret (by
   simp only [EN,DO,ha.2,hb.2.1]
   exact⟨⟨ha.1,hb.1⟩,trivial,by simpa using hb.2.2⟩)
 | [],_::_=>Yl.no
 | [_],[]=>Yl.no
 | [_],_::_::_=>Yl.no
 | _::_::_,[]=>Yl.no
theorem wB (hw:BW H st) {ts:List VT} {xs:List ResultVar}:Yl (aV P st ts xs) (fun r=>(C5 P st.toSt xs).1∧(C5 P st.toSt xs).2=Jq ts r):=
 (gI hw ts xs).mono fun r h=>by
  obtain⟨h1,h2,h3⟩:=h
  match ts,xs,r,h1,h2,h3 with
  | [],[],r,h1,h2,_=>exact⟨h1,by simp only [C5,Jq];rw [h2];simp only [DO]⟩
  | [t],[x],r,h1,h2,_=>
    simp only [EN]at h1 h2
    refine⟨h1.1,?_⟩
    have:[(P4 P st.toSt x).2]=[IT t r]:=h2
    injection this
  | t::u::ts,x::y::xs,r,h1,h2,_=>exact⟨h1,by simp only [C5,Jq];rw [h2]⟩
  | [],_::_,_,_,_,h3=>simp at h3
  | [_],[],_,_,_,h3=>simp at h3
  | [_],_::_::_,_,_,_,h3=>simp at h3
  | _::_::_,[],_,_,_,h3=>simp at h3
  | _::_::_,[_],_,_,_,h3=>simp at h3
theorem UB: ∀ (ts:List VT) (x:RT T ts),Ce (DO ts x)=true
 | [],_=>by simp only [DO,Ce]
 | [t],x=>by simp only [DO,Ce,Bool.and_true];exact KL t x
 | t::u::ts,x=>by simp only [DO,Ce,KL,UB (u::ts),Bool.and_self]
theorem pe: ∀ (ts:List VT) (x:RT T ts),(Jq ts x).pure =true
 | [],_=>by simp only [Jq,V.pure,Ce]
 | [t],x=>KL t x
 | t::u::ts,x=>by simp only [Jq,V.pure];exact UB _ _
def uh (Γ:List (CE T P I)):Nat→ue T
 | 0=>fun _ _ _ _ _=>none
 | n+1=>fun R c h st K=>J3 Γ (uh Γ n) c h st R K
theorem nI {Γ:List (CE T P I)} (hfol:P.follows .mixedOrders =true): ∀ n,rG P I (uh Γ n)
 | 0=>fun _ _ _ _ _ _ _ _ hr=>by simp [uh]at hr
 | n+1=>fun R c h st H K r hw hr F Q hI hK=>E6 hfol (nI hfol n) c h st H R K r hw hr F Q hI hK
def xZ (P:Program) (rs:List VT) (xs:List ResultVar) (e:Exit) (st:AB T):Option (RT T rs):=match e with
 | .normal =>aV P st rs xs _ some
 | .ret =>aV P st rs xs _ some
 | _=>none
def rL (Γ:List (CE T P I)) (n:Nat) (fn:Func) (body:Code) (h:Hn) (ps rs:List VT) (x:XS T ps):Option (RT T rs):=
 match Nat.ble (OD ps x).length fn.ntmps with
 | true=>J3 Γ (uh Γ n) body h (cS (OD ps x) fn.ntmps) (RT T rs) (xZ P rs fn.results.toList)
 | false=>none
theorem ya {Γ:List (CE T P I)} (hsta:O7 I) (hfol:P.follows .mixedOrders =true) {n:Nat} {f:FuncId} {fn:Func} {body:Code} (hf:P.funcs[f]? =some fn) (hb:fn.body=some body) (hent:PL.ent P f=true) {h:Hn} {ps rs:List VT} {x:XS T ps} {r:RT T rs}
 (hr:rL Γ n fn body h ps rs x=some r):AQ P I f (GZ ps x) (· =Jq rs r):=by
 unfold rL at hr
 split at hr
 ·rename_i hl
  obtain⟨H,hw⟩:=pc (args:=OD ps x) (n:=fn.ntmps) (fun H=>gG ps x)
  refine AQ.of hsta hent hf hb fun F hI=>?_
  rw [←aU, ←gH (by simpa using hl)]
  refine E6 hfol (nI hfol n) body h _ H _ _ r hw hr F _ hI fun H' e st' n q=>?_
  have fin:aV P st' rs fn.results.toList _ some=some r→(C5 P st'.toSt fn.results.toList).1∧(C5 P st'.toSt fn.results.toList).2.pure =true∧(C5 P st'.toSt fn.results.toList).2=Jq rs r:=by
   intro q
   obtain⟨v,⟨h1,h2⟩,h3⟩:=wB n.ok _ _ r q
   injection h3 with h3
   subst h3
   exact⟨h1,by rw [h2];exact pe _ _,h2⟩
  cases e<;>simp only [xZ,mT]at q ⊢ <;>first
   | exact fin q
   | (cases q;done)
 ·cases hr
def AK (Γ:List (CE T P I)) (hsta:O7 I) (hfol:P.follows .mixedOrders =true) (n:Nat) (f:FuncId) (fn:Func) (body:Code) (h:Hn) (ps rs:List VT) (run:XS T ps→Option (RT T rs)) (hf:P.funcs[f]? =some fn) (hb:fn.body=some body)
    (heq:run=rL Γ n fn body h ps rs) (hent:PL.ent P f=true:=by kernel_rfl):CE T P I:=⟨f,ps,rs,run,fun x r q=>ya (h:=h) hsta hfol hf hb hent (by rw [←heq];exact q)⟩
end
end Go.PL
namespace Go.PL
theorem Cz {a b:Prop} (h:a=b) (p:a):b:=h▸p
end Go.PL
namespace Go.PL
open Go Go.RowKit
structure FA where
 den:Type
 inh:Inhabited den
 enc:den→List C
 ks:List Kd
def FA.unit:FA:=⟨Unit,⟨()⟩,fun _=>[],[]⟩
def Qt:List (Nat×FA)→Nat→FA
 | [],_=> .unit
 | (k,r)::l,E=>match Nat.beq k E with
   | true=>r
   | false=>Qt l E
structure LG (R:Nat→FA) where
 E:Nat
 un:(R E).den →DK (fun E=>(R E).den) (R E).ks
 bd:DK (fun E=>(R E).den) (R E).ks →(R E).den
 beq:(R E).den →(R E).den →Bool
 unmk: ∀ y,un (bd y)=y
 encok: ∀ x,FB (fun E=>(R E).enc) (R E).ks (un x)=(R E).enc x
 beqok: ∀ x y,beq x y=BL ((R E).enc x) ((R E).enc y)
def gJ {R:Nat→FA}:List (LG R)→(E:Nat)→Option {e:LG R // e.E=E}
 | [],_=>none
 | e::l,E=>match Nat.decEq e.E E with
   | .isTrue h=>some ⟨e,h⟩
   | .isFalse _=>gJ l E
theorem EF {R:Nat→FA}: ∀ {L1:List (LG R)} {L0:List (Nat×FA)} {E:Nat},L1.map (·.E)=L0.map (·.1)→gJ L1 E=none→Qt L0 E= .unit
 | [],[],_,_,_=>rfl
 | [],_::_,_,h,_=>by simp at h
 | _::_,[],_,h,_=>by simp at h
 | e::L1,(k,r)::L0,E,h,hf=>by
   simp only [List.map_cons,List.cons.injEq]at h
   unfold gJ at hf
   split at hf
   ·cases hf
   ·rename_i hne _
    have:Nat.beq k E=false:=by
     cases hb:Nat.beq k E with
     | false=>rfl
     | true=>exact absurd (h.1.trans (Nat.eq_of_beq_eq_true hb)) hne
    simp only [Qt,this]
    exact EF h.2 hf
inductive TSel (R:Nat→FA) (E:Nat) where
 | some (e:LG R) (h:e.E=E)
 | none (h:R E=FA.unit)
def pf {R:Nat→FA} (L1:List (LG R)) (hn: ∀ E,gJ L1 E=none→R E= .unit) (E:Nat):TSel R E:=match h:gJ L1 E with
 | some e=> .some e.1 e.2
 | none=> .none (hn E h)
section
variable {R:Nat→FA} {E:Nat}
def TSel.un:TSel R E→(R E).den →DK (fun E=>(R E).den) (R E).ks
 | .some e h=>h▸e.un
 | .none h=>fun _=>h▸(():DK (fun E=>(R E).den) FA.unit.ks)
def TSel.bd:TSel R E→DK (fun E=>(R E).den) (R E).ks →(R E).den
 | .some e h=>h▸e.bd
 | .none h=>fun _=>h▸(():FA.unit.den)
def TSel.beq:TSel R E→(R E).den →(R E).den →Bool
 | .some e h=>h▸e.beq
 | .none _=>fun _ _=>true
theorem TSel.unmk (s:TSel R E) (y:DK (fun E=>(R E).den) (R E).ks):s.un (s.bd y)=y:=by
 cases s with
 | some e h=>cases h;exact e.unmk y
 | none h=>
   show h▸(():DK (fun E=>(R E).den) FA.unit.ks)=y
   have: ∀ (D:Nat→Type) (r:FA) (h:r=FA.unit) (y:DK D r.ks),h▸(():DK D FA.unit.ks)=y:=by
    intro D r h y
    subst h
    rfl
   exact this _ _ h y
theorem TSel.encok (s:TSel R E) (x:(R E).den):FB (fun E=>(R E).enc) (R E).ks (s.un x)=(R E).enc x:=by
 cases s with
 | some e h=>cases h;exact e.encok x
 | none h=>
   have: ∀ (r:FA) (h:r=FA.unit) (x:r.den) (z:DK (fun E=>(R E).den) r.ks),FB (fun E=>(R E).enc) r.ks z=r.enc x:=by
    intro r h x z
    subst h
    rfl
   exact this _ h x _
theorem TSel.beqok (s:TSel R E) (x y:(R E).den):s.beq x y=BL ((R E).enc x) ((R E).enc y):=by
 cases s with
 | some e h=>cases h;exact e.beqok x y
 | none h=>
   show true=_
   have: ∀ (r:FA) (h:r=FA.unit) (x y:r.den),true=BL (r.enc x) (r.enc y):=by
    intro r h x y
    subst h
    rfl
   exact this _ h x y
end
def wC (L0:List (Nat×FA)) (L1:List (LG (Qt L0))) (hk:L1.map (·.E)=L0.map (·.1)):C6 where
 den E:=(Qt L0 E).den
 inh E:=(Qt L0 E).inh
 enc E:=(Qt L0 E).enc
 ks E:=(Qt L0 E).ks
 un E:=(pf L1 (fun _ h=>EF hk h) E).un
 bd E:=(pf L1 (fun _ h=>EF hk h) E).bd
 beq E:=(pf L1 (fun _ h=>EF hk h) E).beq
 unmk E:=(pf L1 (fun _ h=>EF hk h) E).unmk
 encok E:=(pf L1 (fun _ h=>EF hk h) E).encok
 beqok E:=(pf L1 (fun _ h=>EF hk h) E).beqok
end Go.PL
namespace Go.PL
open Go
theorem Pv {a b:Bool} (h:a=true) (k:b=true):(a&&b)=true:=by rw [h,k];rfl
theorem pg {P:Program} {f:FuncId} {fn:Func} {s:ChangeSpec} {c:OpenClaim} (h0:(c.wf (OpenSpec.ofChange s))=true) (h1:(laidOutB P)=true) (h2:(mapsRowed P)=true) (h3:(fn.params.all (P.readableRec ·))=true) (h4:(namedTie P c.named s.vars)=true) (h5:((c.stops==[]))=true) (h6:((P.stops==[]))=true) (h7:((c.knobs==[]))=true) (h8:((P.stopKnobs==[]))=true) (h9:((c.inPlace==P.inPlace f))=true) (h10:((c.unfollowed==P.unfollowed f))=true) (h11:((c.recurses==P.recurses f))=true) (h12:((c.named==P.varsNamed f))=true) (h13:((c.maps==(fn.params.toList++s.plain.varTypes P).any (P.mapsRec ·)))=true) (h14:((c.ifaces==(fn.params.toList++s.plain.varTypes P).any (P.ifacesRec ·)))=true) (h15:((c.mapsOut==P.mapsAmong fn.resultTypes.toList))=true) (h16:((c.loops==(fn.params.toList++s.plain.varTypes P).any (P.loopsFrom ·)))=true) (h17:((c.wideKeys==(fn.params.toList++s.plain.varTypes P++fn.resultTypes.toList).any (P.wideKeysFrom ·)))=true) (h18:(s.vars.all (P.varReadable ·))=true) (h19:(fn.resultTypes.all (fun t=>P.readableRec t&&decide (t<P.types.size)))=true) (h20:((c.ifacesOut==fn.resultTypes.toList.any (P.ifacesRec ·)))=true) (h21:((c.loopsOut==fn.resultTypes.toList.any (P.loopsFrom ·)))=true) (h22:((c.plainKeys==P.plainKeys))=true) (h23:(c.shortTexts.isNone)=true) (h24:(P.stopsHeard)=true) (h25:(P.mayEnter)=true) (h26:((c.lifted==P.liftsFinal))=true) (h27:((P.make==some c.make))=true) (h28:(c.domain.isEmpty&&(c.kinds==[]))=true) (h29:((c.pinned==c.pinnedBy))=true) (h30:((c.veiled==(fn.params.toList++s.plain.varTypes P++fn.resultTypes.toList).any (P.veiledRec ·)))=true) (h31:(c.veiledFits P fn.params.toList (fn.params.toList++s.plain.varTypes P++fn.resultTypes.toList))=true):joinedFacts P f fn s c=true:=by
 obtain⟨d1,d2⟩:=(Bool.and_eq_true _ _▸h28:_∧_)
 unfold joinedFacts
 rw [if_pos d1]
 exact(Pv (Pv (Pv (Pv (Pv (Pv (Pv (Pv (Pv (Pv (Pv (Pv (Pv (Pv (Pv (Pv (Pv (Pv (Pv (Pv (Pv (Pv (Pv (Pv (Pv (Pv (Pv (Pv (Pv (Pv (Pv h0 h1) h2) h3) h4) h5) h6) h7) h8) h9) h10) h11) h12) h13) h14) h15) h16) h17) h18) h19) h20) h21) h22) h23) h24) h25) h26) h27) d2) h29) h30) h31)
end Go.PL
