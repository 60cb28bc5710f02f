/- The pure logic: Tj, Tk, Tl, Tm, Tn, To, Tp, Tq, Tr, Ts, PlPd. -/
import Derived.Test.YtiddnfpjgojoaaaGreatDoorPlPbtoTi
import Derived.JoinedOf
namespace Go.PL
open Go Go.RowKit
variable {T:C1}
inductive VT where
 | k (kd:Kd)
 | s (E:Nat)
 | f (g:FuncId)
def HR (T:C1):VT→Type
 | .k kd=>ou T.den kd
 | .s E=>T.den E
 | .f _=>Unit
def xG (T:C1):(k:Kd)→ou T.den k
 | .int _=>(default:Int)
 | .bool =>(default:Bool)
 | .str =>(default:List UInt8)
 | .lst E=>(default:List (T.den E))
def uT (T:C1):(t:VT)→HR T t
 | .k kd=>xG T kd
 | .s E=>(T.inh E).default
 | .f _=>()
def Lt:(t:VT)→HR T t→DV T
 | .k kd,x=> .c (.k kd x)
 | .s E,x=> .agg (jX E x)
 | .f g,_=> .c (.c (.fn g))
def IJ:(t:VT)→HR T t→V
 | .k kd,x=> .c (B7 T.enc kd x)
 | .s E,x=> .agg (T.enc E x)
 | .f g,_=> .c (.fn g)
theorem NG (t:VT) (x:HR T t):(Lt t x).toV =IJ t x:=by
 cases t with
 | k kd=>simp only [Lt,DV.toV,DC.toC,IJ]
 | s E=>exact congrArg V.agg (HL E x)
 | f g=>simp only [Lt,DV.toV,DC.toC,IJ]
theorem Qm {H:A2 T} {nx:Nat} (t:VT) (x:HR T t):(Lt t x).ok H nx:=by
 cases t with
 | k kd=>simp only [Lt,DV.ok,DC.ok]
 | s E=>simp only [Lt,DV.ok];exact Pc E x
 | f g=>simp only [Lt,DV.ok,DC.ok]
def yp:DV T→Option (DC T)
 | .c x=>some x
 | _=>none
def yq:DV T→Option (List (DC T))
 | .agg cs=>some cs
 | _=>none
def km (kd:Kd) (v:DV T):Option (ou T.den kd):=match yp v with
 | some x=>Qc false kd x
 | none=>none
def castVs' (E:Nat) (v:DV T):Option (T.den E):=match yq v with
 | some cs=>qx false E cs
 | none=>none
def kn (g:FuncId):DV T→Option Unit
 | .c (.c (.fn g'))=>match Nat.beq g' g with
   | true=>some ()
   | false=>none
 | _=>none
def qZ:(t:VT)→DV T→Option (HR T t)
 | .k kd,v=>km kd v
 | .s E,v=>castVs' E v
 | .f g,v=>kn g v
theorem fZ {v:DV T} {x:DC T} (h:yp v=some x):v= .c x:=by
 unfold yp at h
 split at h
 ·injection h with h;rw [h]
 ·cases h
theorem f0 {v:DV T} {x:List (DC T)} (h:yq v=some x):v= .agg x:=by
 unfold yq at h
 split at h
 ·injection h with h;rw [h]
 ·cases h
theorem tH {kd:Kd} {v:DV T} {x:ou T.den kd} (h:km kd v=some x):v.toV= .c (B7 T.enc kd x):=by
 unfold km at h
 split at h
 ·rename_i y hy
  rw [fZ hy]
  simp only [DV.toV,(Kv h).2 rfl]
 ·cases h
theorem tI {E:Nat} {v:DV T} {x:T.den E} (h:castVs' E v=some x):v.toV= .agg (T.enc E x):=by
 unfold castVs' at h
 split at h
 ·rename_i y hy
  rw [f0 hy]
  simp only [DV.toV,(HM h).2 rfl]
 ·cases h
theorem tJ {g:FuncId} {v:DV T} {x:Unit} (h:kn g v=some x):v.toV= .c (.fn g):=by
 unfold kn at h
 split at h
 ·split at h
  ·rename_i hb
   have:=Nat.eq_of_beq_eq_true hb
   subst this
   simp only [DV.toV,DC.toC]
  ·cases h
 ·cases h
theorem WY {t:VT} {v:DV T} {x:HR T t} (h:qZ t v=some x):v.toV=IJ t x:=by
 cases t with
 | k kd=>exact tH h
 | s E=>exact tI h
 | f g=>exact tJ h
def XS (T:C1):List VT→Type
 | []=>Unit
 | t::ts=>HR T t×XS T ts
def GT:(ts:List VT)→XS T ts→List V
 | [],_=>[]
 | t::ts,x=>IJ t x.1::GT ts x.2
def So:(ts:List VT)→List (DV T)→Option (XS T ts)
 | [],[]=>some ()
 | t::ts,v::vs=>match qZ t v,So ts vs with
   | some x,some y=>some (x,y)
   | _,_=>none
 | _,_=>none
theorem Uj: ∀ {ts:List VT} {vs:List (DV T)} {x:XS T ts},So ts vs=some x→Bx vs=GT ts x
 | [],[],x,_=>by simp only [Bx,GT]
 | [],_::_,_,h=>by simp [So]at h
 | _::_,[],_,h=>by simp [So]at h
 | t::ts,v::vs,x,h=>by
   unfold So at h
   split at h
   ·rename_i a b h1 h2
    injection h with h;subst h
    simp only [Bx,GT,WY h1,Uj h2]
   ·cases h
def RT (T:C1):List VT→Type
 | []=>Unit
 | [t]=>HR T t
 | t::u::ts=>HR T t×RT T (u::ts)
def uU (T:C1):(ts:List VT)→RT T ts
 | []=>()
 | [t]=>uT T t
 | t::u::ts=>(uT T t,uU T (u::ts))
instance (ts:List VT):Inhabited (RT T ts):=⟨uU T ts⟩
def Cn:(ts:List VT)→RT T ts→List (DV T)
 | [],_=>[]
 | [t],x=>[Lt t x]
 | t::u::ts,x=>Lt t x.1::Cn (u::ts) x.2
def Sp:(ts:List VT)→RT T ts→DV T
 | [],_=> .tup []
 | [t],x=>Lt t x
 | t::u::ts,x=> .tup (Cn (t::u::ts) x)
def DM:(ts:List VT)→RT T ts→List V
 | [],_=>[]
 | [t],x=>[IJ t x]
 | t::u::ts,x=>IJ t x.1::DM (u::ts) x.2
def Jg:(ts:List VT)→RT T ts→V
 | [],_=> .tup []
 | [t],x=>IJ t x
 | t::u::ts,x=> .tup (DM (t::u::ts) x)
theorem WZ: ∀ (ts:List VT) (x:RT T ts),Bx (Cn ts x)=DM ts x
 | [],_=>by simp only [Cn,Bx,DM]
 | [t],x=>congrArg (fun z=>[z]) (NG t x)
 | t::u::ts,x=>by simp only [Cn,Bx,DM,NG,WZ (u::ts)]
theorem Mp: ∀ (ts:List VT) (x:RT T ts),(Sp ts x).toV =Jg ts x
 | [],_=>by simp only [Sp,DV.toV,Jg,Bx]
 | [t],x=>NG t x
 | t::u::ts,x=>by simp only [Sp,DV.toV,Jg,WZ]
theorem Sr {H:A2 T} {nx:Nat}: ∀ (ts:List VT) (x:RT T ts),Dg H nx (Cn ts x)
 | [],_=>by simp only [Cn,Dg]
 | [t],x=>by simp only [Cn,Dg,and_true];exact Qm t x
 | t::u::ts,x=>by simp only [Cn,Dg,Qm,Sr (u::ts),and_self]
theorem NH {H:A2 T} {nx:Nat}: ∀ (ts:List VT) (x:RT T ts),(Sp ts x).ok H nx
 | [],_=>by simp only [Sp,DV.ok,Dg]
 | [t],x=>Qm t x
 | t::u::ts,x=>by simp only [Sp,DV.ok];exact Sr _ _
def cq:Kd→Bool
 | .lst _=>false
 | _=>true
def Ss (T:C1):VT→Bool
 | .k kd=>cq kd
 | .s E=>(T.ks E).all cq
 | .f _=>true
theorem W0 {den:Nat→Type} {enc: ∀ E,den E→List C}: ∀ (ks:List Kd) (y:DK den ks),(Fw enc ks y).all C.flat=ks.all cq
 | [],_=>rfl
 | k::ks,y=>by
   simp only [Fw,List.all_cons,W0 ks]
   cases k<;>rfl
theorem Pj (t:VT) (x:HR T t):(IJ t x).flat =Ss T t:=by
 cases t with
 | k kd=>cases kd<;>rfl
 | s E=>
   show (T.enc E (show T.den E from x)).all C.flat=(T.ks E).all cq
   rw [←T.encok,W0]
 | f g=>rfl
theorem Uk: ∀ (ts:List VT) (x:RT T ts),Je (DM ts x)=ts.all (Ss T)
 | [],_=>by simp [DM,Je]
 | [t],x=>by simp only [DM,Je,List.all_cons,List.all_nil,Bool.and_true];exact Pj t x
 | t::u::ts,x=>by simp only [DM,Je,Pj,Uk (u::ts),List.all_cons]
theorem JN: ∀ (ts:List VT) (x:RT T ts),(Jg ts x).flat =ts.all (Ss T)
 | [],_=>by simp [Jg,V.flat,Je]
 | [t],x=>by simp only [Jg,List.all_cons,List.all_nil,Bool.and_true];exact Pj t x
 | t::u::ts,x=>by simp only [Jg,V.flat,Uk]
structure CE (T:C1) (P:Program) (I:World→Prop) where
 f:FuncId
 ps:List VT
 rs:List VT
 run:XS T ps→Option (RT T rs)
 ok: ∀ x r,run x=some r→AP P I f (GT ps x) (· =Jg rs r)
def Su {P:Program} {I:World→Prop} (f:FuncId) (ws:List (DV T)):List (CE T P I)→Option ((e:CE T P I)×XS T e.ps)
 | []=>none
 | e::r=>match Nat.beq e.f f with
   | true=>match So e.ps ws with
     | some x=>some ⟨e,x⟩
     | none=>Su f ws r
   | false=>Su f ws r
theorem Gn {P:Program} {I:World→Prop} {f:FuncId} {ws:List (DV T)}: ∀ {l:List (CE T P I)} {e:CE T P I} {x:XS T e.ps},Su f ws l=some ⟨e,x⟩→e.f=f∧Bx ws=GT e.ps x
 | [],_,_,h=>by cases h
 | a::r,e,x,h=>by
   unfold Su at h
   split at h
   ·rename_i hb
    split at h
    ·rename_i y hy
     injection h with h
     injection h with h1 h2
     subst h1
     have h2:=eq_of_heq h2
     subst h2
     exact⟨Nat.eq_of_beq_eq_true hb,Uj hy⟩
    ·exact Gn h
   ·exact Gn h
def cr (st:Az T) (c:DC T):Option (DC T):=match Uh c with
 | some id=>match Om st id with
   | some ⟨E,l⟩=>some (.k (.lst E) l)
   | none=>none
 | none=>some (WW c)
def W1 (st:Az T):List (DC T)→Option (List (DC T))
 | []=>some []
 | c::cs=>match cr st c,W1 st cs with
   | some d,some ds=>some (d::ds)
   | _,_=>none
def ct (st:Az T):DV T→Option (DV T)
 | .c x=>match cr st x with
   | some y=>some (.c y)
   | none=>none
 | .agg cs=>match W1 st cs with
   | some ds=>some (.agg ds)
   | none=>none
 | _=>none
def NI (st:Az T):List (DV T)→Option (List (DV T))
 | []=>some []
 | v::vs=>match ct st v,NI st vs with
   | some d,some ds=>some (d::ds)
   | _,_=>none
def nf (c:DC T):List AC:=match Uh c with
 | some id=>[id]
 | none=>[]
def ai:List (DC T)→List AC
 | []=>[]
 | c::cs=>nf c++ai cs
def aj:DV T→List AC
 | .c x=>nf x
 | .agg cs=>ai cs
 | _=>[]
def W2:List (DV T)→List AC
 | []=>[]
 | v::vs=>aj v++W2 vs
theorem Pk {c:DC T} (h:Uh c=none): ∀ id,c.toC ≠ .osl id:=fun i he=>by
 cases c with
 | c x=>simp only [DC.toC]at he;subst he;simp [Uh]at h
 | k kd x=>cases kd<;>simp [DC.toC,B7]at he
 | ip=>simp [DC.toC]at he
 | rp=>simp [DC.toC]at he
 | ap=>simp [DC.toC]at he
 | clo b f cs=>cases b<;>simp [DC.toC]at he
theorem Ul {st:Az T} {c d:DC T} (h:cr st c=some d):IE st.toSt c.toC=d.toC:=by
 unfold cr at h
 split at h
 ·rename_i id ho
  have:=Kx ho
  subst this
  split at h
  ·rename_i E l hr
   injection h with h;subst h
   simp only [DC.toC,IE,(DJ hr).1,B7,if_true]
  ·cases h
 ·rename_i ho
  injection h with h;subst h
  rw [Pi]
  have:=Pk ho
  cases hc:c.toC<;>simp only [IE,Gd]
  exact(this _ hc).elim
theorem Um {st:Az T}: ∀ {cs ds:List (DC T)},W1 st cs=some ds→(A1 cs).map (IE st.toSt)=A1 ds
 | [],ds,h=>by simp [W1]at h;subst h;simp [A1]
 | c::cs,ds,h=>by
   unfold W1 at h
   split at h
   ·rename_i d ds' h1 h2
    injection h with h;subst h
    simp only [A1,List.map_cons,Ul h1,Um h2]
   ·cases h
theorem Un {st:Az T} {v w:DV T} (h:ct st v=some w):BO st.toSt v.toV=w.toV:=by
 unfold ct at h
 split at h
 ·split at h
  ·rename_i y hy
   injection h with h;subst h
   simp only [DV.toV,BO,Ul hy]
  ·cases h
 ·split at h
  ·rename_i y hy
   injection h with h;subst h
   simp only [DV.toV,BO,Um hy]
  ·cases h
 ·cases h
theorem G1 {st:Az T}: ∀ {vs ws:List (DV T)},NI st vs=some ws→(Bx vs).map (BO st.toSt)=Bx ws
 | [],ws,h=>by simp [NI]at h;subst h;simp [Bx]
 | v::vs,ws,h=>by
   unfold NI at h
   split at h
   ·rename_i d ds' h1 h2
    injection h with h;subst h
    simp only [Bx,List.map_cons,Un h1,G1 h2]
   ·cases h
theorem W3 (c:DC T):PX c.toC=nf c:=by
 unfold nf
 split
 ·rename_i id ho
  rw [Kx ho]
  simp only [DC.toC,PX]
 ·rename_i ho
  have:=Pk ho
  cases hc:c.toC<;>simp only [PX]
  exact(this _ hc).elim
theorem W4: ∀ cs:List (DC T),(A1 cs).flatMap PX=ai cs
 | []=>by simp [A1,ai]
 | c::cs=>by simp only [A1,List.flatMap_cons,W3,W4 cs,ai]
theorem ko (v:DV T):jq v.toV=aj v:=by
 cases v with
 | c x=>simp only [DV.toV,jq,aj,W3]
 | agg cs=>simp only [DV.toV,jq,aj,W4]
 | _=>simp only [DV.toV,jq,aj]
theorem FD: ∀ vs:List (DV T),Er (Bx vs)=W2 vs
 | []=>by simp [Bx,Er,W2]
 | v::vs=>by
   have:=FD vs
   simp only [Er]at this ⊢
   simp only [Bx,List.flatMap_cons,ko,this,W2]
theorem Ky (t:VT) (x:HR T t):(IJ t x).pure =true:=by
 cases t with
 | k kd=>simp only [IJ,V.pure];exact WA kd x
 | s E=>simp only [IJ,V.pure];exact WC E x
 | f g=>rfl
theorem Kz: ∀ (ts:List VT) (x:XS T ts),Cf (GT ts x)=true
 | [],_=>by simp only [GT,Cf]
 | t::ts,x=>by simp only [GT,Cf,Ky,Kz ts,Bool.and_self]
theorem Az.arg_val {st:Az T} {key:List GL} {x:Operand} {v:DV T} (h:st.arg key x=some v) (g:Bool):(st.toSt.arg g x).2=v.toV:=by
 have e:=st.ev_toSt x
 unfold Az.arg at h
 unfold St.arg
 split at h
 ·rename_i k v' hx
  split at h
  ·injection h with h;subst h
   rw [hx]at e
   simp only [DV.toV]at e
   rw [e]
  ·cases h
 ·rename_i hne
  injection h with h;subst h
  rw [e]
  cases hv:st.ev x with
  | g k v=>exact(hne k v hv).elim
  | _=>simp only [DV.toV]
theorem Sv {st:Az T} {key:List GL} (g:Bool): ∀ {xs:List Operand} {vs:List (DV T)},II st key xs=some vs→(st.toSt.args g xs).2=Bx vs
 | [],vs,h=>by simp [II]at h;subst h;simp [St.args,Bx]
 | x::xs,vs,h=>by
   unfold II at h
   split at h
   ·rename_i v vs' h1 h2
    injection h with h;subst h
    simp only [St.args,Bx,Az.arg_val h1 g,Sv g h2]
   ·cases h
def ak {P:Program} {I:World→Prop} (Γ:List (CE T P I)) (key:List GL) (st:Az T) (f:FuncId) (xs:List Operand) (d:Option Nat):M (Az T):=
 match II st key xs with
 | some vs=>match NI st vs with
   | some ws=>match Su f ws Γ with
     | some ⟨e,x⟩=> .opt (gk key (e.run x)) fun r=>match key with
       | []=>match e.rs.all (Ss T)with
         | true=> .ret (st.put d (Sp e.rs r))
         | false=>match W2 vs with
           | []=> .ret (st.put d (Sp e.rs r))
           | [id]=>match st.frz id with
             | some s=> .ret (s.put d (Sp e.rs r))
             | none=> .no
           | _=> .no
       | l::ls=>match e.rs.all (Ss T),W2 vs with
         | true,_=> .ret (st.put d (.g (l::ls) (Sp e.rs r)))
         | false,[]=> .ret (st.put d (.g (l::ls) (Sp e.rs r)))
         | _,_=> .no
     | none=> .no
   | none=> .no
 | none=> .no
def v8 (H:A2 T) (P:Program) (I:World→Prop) (ops:Array Oper) (st:Az T) (o:Oper) (st':Az T):Prop:=
 (∃ H',Nx H st H' st')∧st'.pre=st.pre∧ ∀ K:St→Prop,K st'.toSt→mE P I ops o st.toSt K
section
variable {H:A2 T} {P:Program} {I:World→Prop} {Γ:List (CE T P I)} {st:Az T}
theorem oF (hw:BV H st) {f:FuncId} {xs:List Operand} {o:Oper} (hk:Ca o.op= .call f xs):
 Yl (ak Γ [] st f xs o.dst) (fun st'=>(∃ H',Nx H st H' st')∧st'.pre=st.pre∧ ∀ K:St→Prop,K st'.toSt→nV P I o st.toSt K):=by
 unfold ak
 split
 ·rename_i vs hvs
  split
  ·rename_i ws hws
   split
   ·rename_i e x hx
    obtain⟨he,hx⟩:=Gn hx
    refine Yl.opt fun r hr=>?_
    obtain⟨a1,a2,a3⟩:=C6 (key:=[]) hw (fun _ hl=>by cases hl) rfl hvs
    change (st.toSt.args true xs).1 at a2
    change (st.toSt.args true xs).2=Bx vs at a3
    have hp:=e.ok x r (Wy hr rfl)
    rw [he]at hp
    have hs:(Bx vs).map (BO st.toSt)=GT e.ps x:=by rw [G1 hws,hx]
    have base: ∀ st':Az T,((Jg e.rs r).flat =true∨(Er (Bx vs)).length ≤1∧ ∀ id∈Er (Bx vs),st.toSt.okFrz id=true)→st'.toSt=st.toSt.after (Er (Bx vs)) o.dst (Jg e.rs r)→ ∀ K:St→Prop,K st'.toSt→nV P I o st.toSt K:=by
     intro st' h1 h2 K hK
     refine .inr ?_
     rw [hk]
     simp only
     rw [a3,hs]
     refine⟨a2,Kz _ _,_,hp,fun r' hr'=>?_⟩
     subst hr'
     exact⟨h1,by rw [←h2];exact hK⟩
    simp only
    split
    ·rename_i hf
     refine Yl.ret ⟨Az.put_nx hw _ (NH _ _),B8 _ _ _,base _ (.inl (by rw [JN];exact hf)) ?_⟩
     rw [Az.put_toSt,Mp]
     unfold St.after
     rw [if_pos (by rw [JN];exact hf)]
    ·rename_i hf
     have hnf: ¬(Jg e.rs r).flat =true:=by rw [JN,hf];simp
     split
     ·rename_i ht
      refine Yl.ret ⟨Az.put_nx hw _ (NH _ _),B8 _ _ _,base _ (.inr (by rw [FD,ht];simp)) ?_⟩
      rw [Az.put_toSt,Mp,FD,ht]
      unfold St.after
      rw [if_neg hnf]
     ·rename_i id ht
      split
      ·rename_i s hs'
       obtain⟨⟨H1,hN⟩,h2,h3,h4⟩:=Az.frz_spec hw hs'
       refine Yl.ret ⟨Az.put_spec hN _ (NH _ _),by rw [B8];exact h4,base _ (.inr (by rw [FD,ht];simpa using h3)) ?_⟩
       rw [Az.put_toSt,Mp,FD,ht,h2]
       unfold St.after
       rw [if_neg hnf]
      ·exact Yl.no
     ·exact Yl.no
   ·exact Yl.no
  ·exact Yl.no
 ·exact Yl.no
theorem JO {H:A2 T} {st:Az T} {key:List GL} (hw:BV H st) (hk:Fx H st.nx key) (d:Option Nat) {v:DV T} (hv:Br key=true→v.ok H st.nx): ∃ H',Nx H st H' (st.put d (.g key v)):=
 Az.put_nx hw d (by simp only [DV.ok];exact⟨hk,hv⟩)
theorem oG (hw:BV H st) {f:FuncId} {xs:List Operand} {o:Oper} {key:List GL} (hk:Ca o.op= .call f xs) (hkey:Fx H st.nx key) (hne:key ≠ []):
 Yl (ak Γ key st f xs o.dst) (fun st'=>(∃ H',Nx H st H' st')∧st'.pre=st.pre∧ ∀ K:St→Prop,K st'.toSt→uZ P I o st.toSt (Br key) K):=by
 unfold ak
 split
 ·rename_i vs hvs
  split
  ·rename_i ws hws
   split
   ·rename_i e x hx
    obtain⟨he,hx⟩:=Gn hx
    refine Yl.opt fun r hr=>?_
    have hs:(Bx vs).map (BO st.toSt)=GT e.ps x:=by rw [G1 hws,hx]
    have base:((Jg e.rs r).flat =true∨W2 vs=[])→ ∀ K:St→Prop,K (st.put o.dst (.g key (Sp e.rs r))).toSt →uZ P I o st.toSt (Br key) K:=by
     intro h1 K hK
     refine .inr ?_
     rw [hk]
     simp only
     rw [Sv _ hvs,hs,FD]
     rw [Az.put_toSt]at hK
     refine⟨fun hc=>?_,Jg e.rs r,h1,fun hc=>?_,by simpa only [DV.toV,Mp] using hK⟩
     ·obtain⟨a1,a2,a3⟩:=C6 hw hkey hc hvs
      exact⟨a2,Kz _ _⟩
     ·have hp:=e.ok x r (Wy hr hc)
      rw [he]at hp
      exact hp
    split
    ·exact absurd rfl hne
    ·rename_i l ls
     split
     ·rename_i hf
      exact Yl.ret ⟨JO hw hkey _ (fun _=>NH _ _),B8 _ _ _,base (.inl (by rw [JN];exact hf))⟩
     ·rename_i hf ht
      exact Yl.ret ⟨JO hw hkey _ (fun _=>NH _ _),B8 _ _ _,base (.inr ht)⟩
     ·exact Yl.no
   ·exact Yl.no
  ·exact Yl.no
 ·exact Yl.no
end
end Go.PL
namespace Go.PL
open Go Go.RowKit
variable {T:C1}
def wc (n:Nat) (want b:Bool):GL:=⟨n,want,b==want⟩
def cu (st:Az T) (ops:Array Oper) (j:Nat) (want:Bool):Option (List GL):=
 match ops[j]? with
 | some p=>match p.dst with
   | some t=>match WE st (.tmp t),st.get t with
     | n+1, .c (.k .bool b)=>some [wc n want b]
     | n+1, .g k (.c (.k .bool b))=>some (wc n want b::k)
     | _,_=>none
   | none=>none
 | none=>none
theorem Uo {H:A2 T} {st:Az T} {ops:Array Oper} {j:Nat} {want:Bool} {key:List GL} (hw:BV H st) (h:cu st ops j want=some key):GY st.toSt ops j want=some (Br key)∧Fx H st.nx key∧key ≠ []:=by
 unfold cu at h
 unfold GY
 split at h
 ·rename_i p hp
  split at h
  ·rename_i t ht
   simp only [hp,ht]
   have hg:=st.get_toSt t
   have hok:=Az.get_ok hw t
   have tg: ∀ n,WE st (.tmp t)=n+1→n<st.nx∧H.v n=st.get t:=by
    intro n hn
    unfold WE at hn
    simp only at hn
    split at hn
    ·rename_i hb
     have:=ck hw.tm hn
     unfold Az.get;rw [hb];exact this
    ·cases hn
   split at h
   ·rename_i n b hn hv
    injection h with h;subst h
    obtain⟨q1,q2⟩:=tg n hn
    rw [hv]at hg
    refine⟨by rw [hg];rfl,fun l hl=>?_,by simp⟩
    simp only [List.mem_singleton]at hl
    subst hl
    exact⟨q1,by show (_==_)=(jW (H.v n)==_);rw [q2,hv];rfl⟩
   ·rename_i n k b hn hv
    injection h with h;subst h
    obtain⟨q1,q2⟩:=tg n hn
    rw [hv]at hg hok
    simp only [DV.ok]at hok
    refine⟨?_,fun l hl=>?_,by simp⟩
    ·rw [hg]
     simp only [DV.toV,DC.toC,B7]
     cases k with
     | nil=>simp [Br,wc]
     | cons a r=>rfl
    ·rcases List.mem_cons.1 hl with rfl | hl
     ·exact⟨q1,by show (_==_)=(jW (H.v n)==_);rw [q2,hv];rfl⟩
     ·exact hok.1 l hl
   ·cases h
  ·cases h
 ·cases h
def xH:DV T→Option AC
 | .c x=>Uh x
 | _=>none
def yr {P:Program} {I:World→Prop} (Γ:List (CE T P I)) (ops:Array Oper) (o:Oper) (st:Az T):M (Az T):=
 match o.guard with
 | none=>match Ca o.op with
   | .rd => .bnd (Mi P [] st o.op) fun v=> .ret (st.put o.dst v)
   | .ef =>v7 P st o
   | .call f xs=>ak Γ [] st f xs o.dst
   | .cut x=>match st.arg [] x with
     | some u=>match xH u with
       | some id=>match st.frz id with
         | some s=> .bnd (Mi P [] s o.op) fun v=> .ret (s.put o.dst v)
         | none=> .no
       | none=> .bnd (Mi P [] st o.op) fun v=> .ret (st.put o.dst v)
     | none=> .no
   | .no => .no
 | some (j,want)=>match cu st ops j want with
   | some key=>match Ca o.op with
     | .rd => .bnd (Mi P key st o.op) fun v=> .ret (st.put o.dst (.g key v))
     | .call f xs=>ak Γ key st f xs o.dst
     | _=> .no
   | none=> .no
section
variable {H:A2 T} {P:Program} {I:World→Prop} {Γ:List (CE T P I)} {st:Az T} {ops:Array Oper}
theorem Sw (H:A2 T) (n:Nat):Fx H n []:=fun _ hl=>by cases hl
theorem JP (hw:BV H st) {o:Oper} {Φ:Az T→Prop} (h: ∀ v:DV T,v.ok H st.nx→(El P st.toSt true o.op).1→(El P st.toSt true o.op).2=v.toV→Φ (st.put o.dst v)):Yl (M.bnd (Mi P [] st o.op) fun v=> .ret (st.put o.dst v)) Φ:=
 Yl.bnd (Qi hw (Sw _ _) o.op) fun v hv=>by
  obtain⟨a,b,c⟩:=hv rfl
  exact Yl.ret (h v a b c)
theorem rc (hw:BV H st) (o:Oper):Yl (yr Γ ops o st) (v8 H P I ops st o):=by
 unfold yr
 split
 ·rename_i hg
  have W: ∀ {st':Az T},((∃ H',Nx H st H' st')∧st'.pre=st.pre∧ ∀ K:St→Prop,K st'.toSt→nV P I o st.toSt K)→v8 H P I ops st o st':=fun⟨a,b,c⟩=>⟨a,b,fun K hK=>by unfold mE;rw [hg];exact c K hK⟩
  split
  ·rename_i hk
   refine JP hw fun v hv h1 h2=>W ⟨Az.put_nx hw _ hv,B8 _ _ _,fun K hK=> .inr ?_⟩
   rw [hk]
   refine⟨h1,?_⟩
   rw [h2, ←Az.put_toSt];exact hK
  ·rename_i hk
   refine(tG hw o).mono fun st' h=>?_
   obtain⟨h1,h2,h3,h4⟩:=h
   refine W ⟨h1,h4,fun K hK=> .inl fun F a w G Q hI hR=>?_⟩
   obtain⟨nx,w',G',q1,q2⟩:=(eJ hR h2).out
   unfold Oper.wp Oper.upon
   rw [q1]
   rcases q2 with ⟨v,rfl,q3⟩ | ⟨rfl,q3⟩
   ·exact⟨_,G',hK,q3.less h3⟩
   ·exact⟨_,G',hK,q3.less h3⟩
  ·rename_i f xs hk
   exact(oF hw hk).mono fun st' h=>W h
  ·rename_i x hk
   split
   ·rename_i u hx
    obtain⟨a1,a2,a3⟩:=xF hw hx
    split
    ·rename_i id ho
     have hu:u= .c (.c (.osl id)):=by
      unfold xH at ho
      split at ho
      ·rw [Kx ho]
      ·cases ho
     split
     ·rename_i s hs
      obtain⟨⟨H1,hN⟩,h2,h3,h4⟩:=Az.frz_spec hw hs
      have hcut:st.toSt.cutAt true x=s.toSt:=by
       unfold St.cutAt
       rw [a3,hu]
       simp only [DV.toV,DC.toC]
       exact h2.symm
      refine JP hN.ok fun v hv q1 q2=>W ⟨Az.put_spec hN _ hv,by rw [B8];exact h4,fun K hK=> .inr ?_⟩
      rw [hk]
      simp only
      rw [hcut]
      exact⟨q1,by rw [q2, ←Az.put_toSt];exact hK⟩
     ·exact Yl.no
    ·rename_i ho
     have hcut:st.toSt.cutAt true x=st.toSt:=by
      unfold St.cutAt
      rw [a3]
      split
      ·rename_i id he
       exfalso
       cases u with
       | c y=>
         simp only [DV.toV,V.c.injEq]at he
         exact Pk ho id he
       | _=>simp [DV.toV]at he
      ·rfl
     refine JP hw fun v hv q1 q2=>W ⟨Az.put_nx hw _ hv,B8 _ _ _,fun K hK=> .inr ?_⟩
     rw [hk]
     simp only
     rw [hcut]
     exact⟨q1,by rw [q2, ←Az.put_toSt];exact hK⟩
   ·exact Yl.no
  ·exact Yl.no
 ·rename_i j want hg
  split
  ·rename_i key hkey
   obtain⟨g1,g2,g3⟩:=Uo hw hkey
   have W: ∀ {st':Az T},((∃ H',Nx H st H' st')∧st'.pre=st.pre∧ ∀ K:St→Prop,K st'.toSt→uZ P I o st.toSt (Br key) K)→v8 H P I ops st o st':=fun⟨a,b,c⟩=>⟨a,b,fun K hK=>by unfold mE;rw [hg];simp only [g1];exact c K hK⟩
   split
   ·rename_i hk
    refine Yl.bnd (Qi hw g2 o.op) fun v hv=>Yl.ret (W ⟨JO hw g2 _ (fun hc=>(hv hc).1),B8 _ _ _,fun K hK=> .inr ?_⟩)
    rw [hk]
    refine⟨v.toV,fun hc=>(hv hc).2,?_⟩
    rw [Az.put_toSt]at hK
    simpa only [DV.toV] using hK
   ·rename_i f xs hk
    exact(oG hw hk g2 g3).mono fun st' h=>W h
   ·exact Yl.no
  ·exact Yl.no
def xI {P:Program} {I:World→Prop} (Γ:List (CE T P I)) (ops:Array Oper):List Oper→Az T→M (Az T)
 | [],st=> .ret st
 | o::rest,st=> .bnd (yr Γ ops o st) fun st'=>xI Γ ops rest st'
theorem tK: ∀ (l:List Oper) (st:Az T) (H:A2 T),BV H st→Yl (xI Γ ops l st) (fun st'=>(∃ H',Nx H st H' st')∧st'.pre=st.pre∧ ∀ K:St→Prop,K st'.toSt→CF P I ops l st.toSt K)
 | [],st,H,hw=>Yl.ret ⟨⟨H,Nx.refl hw⟩,rfl,fun _ hK=>hK⟩
 | o::rest,st,H,hw=>Yl.bnd (rc hw o) fun s hs=>by
   obtain⟨⟨H1,h1⟩,h2,h3⟩:=hs
   refine(tK rest s H1 h1.ok).mono fun s' hs'=>?_
   obtain⟨⟨H2,k1⟩,k2,k3⟩:=hs'
   exact⟨⟨H2,h1.trans k1⟩,k2.trans h2,fun K hK=>h3 _ (k3 K hK)⟩
def cv {P:Program} {I:World→Prop} (Γ:List (CE T P I)) (key:List GL) (st:Az T) (f:FuncId) (xs:List Operand):M (DV T):=
 match II st key xs with
 | some vs=>match NI st vs with
   | some ws=>match Su f ws Γ with
     | some ⟨e,x⟩=>mIf (e.rs.all (Ss T)) (.opt (gk key (e.run x)) fun r=> .ret (Sp e.rs r))
     | none=> .no
   | none=> .no
 | none=> .no
def wd {P:Program} {I:World→Prop} (Γ:List (CE T P I)) (ops:Array Oper) (o:Oper) (st:Az T):M (Az T):=
 match o.guard with
 | none=>match Ca o.op with
   | .rd => .bnd (Mi P [] st o.op) fun v=> .ret (st.put o.dst v)
   | .call f xs=> .bnd (cv Γ [] st f xs) fun v=> .ret (st.put o.dst v)
   | .cut _=> .bnd (Mi P [] st o.op) fun v=> .ret (st.put o.dst v)
   | _=> .no
 | some (j,want)=>match cu st ops j want with
   | some key=>match Ca o.op with
     | .rd => .bnd (Mi P key st o.op) fun v=> .ret (st.put o.dst (.g key v))
     | .call f xs=> .bnd (cv Γ key st f xs) fun v=> .ret (st.put o.dst (.g key v))
     | .cut _=> .bnd (Mi P key st o.op) fun v=> .ret (st.put o.dst (.g key v))
     | _=> .no
   | none=> .no
theorem al {key:List GL} (hw:BV H st) (hk:Fx H st.nx key) {f:FuncId} {xs:List Operand}:
 Yl (cv Γ key st f xs) (fun v=>(∀ n,v.ok H n)∧v.toV.flat=true∧(Br key=true→(st.toSt.args (Br key) xs).1∧Cf ((st.toSt.args (Br key) xs).2.map (BO st.toSt))=true)∧(Br key=true→AP P I f ((st.toSt.args (Br key) xs).2.map (BO st.toSt)) (· =v.toV))):=by
 unfold cv
 split
 ·rename_i vs hvs
  split
  ·rename_i ws hws
   split
   ·rename_i e x hx
    obtain⟨he,hx⟩:=Gn hx
    refine Yl.mIf fun hf=>Yl.opt fun r hr=>Yl.ret ?_
    have hs:(Bx vs).map (BO st.toSt)=GT e.ps x:=by rw [G1 hws,hx]
    rw [Sv _ hvs,hs,Mp]
    refine⟨fun n=>NH _ _,by rw [JN];exact hf,fun hc=>⟨(C6 hw hk hc hvs).2.1,Kz _ _⟩,fun hc=>?_⟩
    have hp:=e.ok x r (Wy hr hc)
    rw [he]at hp
    exact hp
   ·exact Yl.no
  ·exact Yl.no
 ·exact Yl.no
theorem tL (hw:BV H st) (o:Oper):Yl (wd Γ ops o st) (fun st'=>(∃ H',Nx H st H' st')∧st'.pre=st.pre∧ ∀ K:St→Prop,K st'.toSt→ve P I ops o st.toSt K):=by
 unfold wd
 split
 ·rename_i hg
  have W: ∀ {st':Az T},((∃ H',Nx H st H' st')∧st'.pre=st.pre∧ ∀ K:St→Prop,K st'.toSt→u0 P I o st.toSt K)→(∃ H',Nx H st H' st')∧st'.pre=st.pre∧ ∀ K:St→Prop,K st'.toSt→ve P I ops o st.toSt K:=fun⟨a,b,c⟩=>⟨a,b,fun K hK=>by unfold ve;rw [hg];exact c K hK⟩
  split
  ·rename_i hk
   refine JP hw fun v hv h1 h2=>W ⟨Az.put_nx hw _ hv,B8 _ _ _,fun K hK=>?_⟩
   unfold u0
   rw [hk]
   exact⟨h1,by rw [h2, ←Az.put_toSt];exact hK⟩
  ·rename_i f xs hk
   refine Yl.bnd (al hw (Sw _ _)) fun v hv=>Yl.ret (W ⟨Az.put_nx hw _ (hv.1 _),B8 _ _ _,fun K hK=>?_⟩)
   obtain⟨q1,q2,q3,q4⟩:=hv
   unfold u0
   rw [hk]
   exact⟨(q3 rfl).1,(q3 rfl).2,v.toV,q2,q4 rfl,by rw [←Az.put_toSt];exact hK⟩
  ·rename_i x hk
   refine JP hw fun v hv h1 h2=>W ⟨Az.put_nx hw _ hv,B8 _ _ _,fun K hK=>?_⟩
   unfold u0
   rw [hk]
   exact⟨h1,by rw [h2, ←Az.put_toSt];exact hK⟩
  ·exact Yl.no
 ·rename_i j want hg
  split
  ·rename_i key hkey
   obtain⟨g1,g2,g3⟩:=Uo hw hkey
   have W: ∀ {st':Az T},((∃ H',Nx H st H' st')∧st'.pre=st.pre∧ ∀ K:St→Prop,K st'.toSt→vd P I o st.toSt (Br key) K)→(∃ H',Nx H st H' st')∧st'.pre=st.pre∧ ∀ K:St→Prop,K st'.toSt→ve P I ops o st.toSt K:=fun⟨a,b,c⟩=>⟨a,b,fun K hK=>by unfold ve;rw [hg];simp only [g1];exact c K hK⟩
   split
   ·rename_i hk
    refine Yl.bnd (Qi hw g2 o.op) fun v hv=>Yl.ret (W ⟨JO hw g2 _ (fun hc=>(hv hc).1),B8 _ _ _,fun K hK=>?_⟩)
    unfold vd
    rw [hk]
    refine⟨v.toV,fun hc=>(hv hc).2,?_⟩
    rw [Az.put_toSt]at hK
    simpa only [DV.toV] using hK
   ·rename_i f xs hk
    refine Yl.bnd (al hw g2) fun v hv=>Yl.ret (W ⟨JO hw g2 _ (fun _=>hv.1 _),B8 _ _ _,fun K hK=>?_⟩)
    obtain⟨q1,q2,q3,q4⟩:=hv
    unfold vd
    rw [hk]
    refine⟨q3,v.toV,q2,q4,?_⟩
    rw [Az.put_toSt]at hK
    simpa only [DV.toV] using hK
   ·rename_i x hk
    refine Yl.bnd (Qi hw g2 o.op) fun v hv=>Yl.ret (W ⟨JO hw g2 _ (fun hc=>(hv hc).1),B8 _ _ _,fun K hK=>?_⟩)
    unfold vd
    rw [hk]
    refine⟨v.toV,fun hc=>(hv hc).2,?_⟩
    rw [Az.put_toSt]at hK
    simpa only [DV.toV] using hK
   ·exact Yl.no
  ·exact Yl.no
def rf {P:Program} {I:World→Prop} (Γ:List (CE T P I)) (ops:Array Oper):List Oper→Az T→M (Az T)
 | [],st=> .ret st
 | o::rest,st=> .bnd (wd Γ ops o st) fun st'=>rf Γ ops rest st'
theorem f5: ∀ (l:List Oper) (st:Az T) (H:A2 T),BV H st→Yl (rf Γ ops l st) (fun st'=>(∃ H',Nx H st H' st')∧st'.pre=st.pre∧ ∀ K:St→Prop,K st'.toSt→ZB P I ops l st.toSt K)
 | [],st,H,hw=>Yl.ret ⟨⟨H,Nx.refl hw⟩,rfl,fun _ hK=>hK⟩
 | o::rest,st,H,hw=>Yl.bnd (tL hw o) fun s hs=>by
   obtain⟨⟨H1,h1⟩,h2,h3⟩:=hs
   refine(f5 rest s H1 h1.ok).mono fun s' hs'=>?_
   obtain⟨⟨H2,k1⟩,k2,k3⟩:=hs'
   exact⟨⟨H2,h1.trans k1⟩,k2.trans h2,fun K hK=>h3 _ (k3 K hK)⟩
end
end Go.PL
namespace Go.PL
open Go Go.RowKit
variable {T:C1}
def W5 (v v':V):Prop:= ∀ (w:World) (G:Bp) (u:Value),Am w G v u→Am w G v' u
def N8 (c c':C):Prop:= ∀ (w:World) (G:Bp) (u:Value),As w G c u→As w G c' u
def DN:List C→List C→Prop
 | [],[]=>True
 | c::cs,d::ds=>N8 c d∧DN cs ds
 | _,_=>False
theorem N8.refl (c:C):N8 c c:=fun _ _ _ h=>h
theorem W5.refl (c:V):W5 c c:=fun _ _ _ h=>h
theorem N8.weak {c d:C} (h:Gd c=d):N8 c d:=fun _ _ _ hr=>h▸JG hr
theorem DN.length: ∀ {cs ds:List C},DN cs ds→cs.length=ds.length
 | [],[],_=>rfl
 | [],_::_,h=>h.elim
 | _::_,[],h=>h.elim
 | c::cs,d::ds,h=>by simp [DN.length h.2]
theorem DN.append: ∀ {a b x y:List C},DN a b→DN x y→DN (a++x) (b++y)
 | [],[],_,_,_,h=>h
 | [],_::_,_,_,h,_=>h.elim
 | _::_,[],_,_,h,_=>h.elim
 | c::cs,d::ds,_,_,h,k=>⟨h.1,DN.append h.2 k⟩
theorem DN.weak: ∀ {cs ds:List C},cs.map Gd=ds→DN cs ds
 | [],ds,h=>by simp at h;subst h;trivial
 | c::cs,ds,h=>by
   subst h
   exact⟨N8.weak rfl,DN.weak rfl⟩
theorem DN.refl: ∀ cs:List C,DN cs cs
 | []=>trivial
 | c::cs=>⟨N8.refl c,DN.refl cs⟩
theorem AE.imp {w:World} {G:Bp}: ∀ {cs ds:List C} {b off:Nat},DN cs ds→AE w G cs b off→AE w G ds b off
 | [],[],_,_,_,h=>h
 | [],_::_,_,_,h,_=>h.elim
 | _::_,[],_,_,h,_=>h.elim
 | c::cs,d::ds,b,off,h,hr=>by
   simp only [AE]at hr ⊢
   obtain⟨⟨v,h1,h2⟩,h3⟩:=hr
   exact⟨⟨v,h1,h.1 _ _ _ h2⟩,AE.imp h.2 h3⟩
theorem AG.imp {w:World} {G:Bp}: ∀ {cs ds:List C} {vs:List Value},DN cs ds→AG w G cs vs→AG w G ds vs
 | [],[],_,_,h=>h
 | [],_::_,_,h,_=>h.elim
 | _::_,[],_,h,_=>h.elim
 | c::cs,d::ds,[],_,hr=>by simp only [AG]at hr
 | c::cs,d::ds,v::vs,h,hr=>by
   simp only [AG]at hr ⊢
   exact⟨h.1 _ _ _ hr.1,AG.imp h.2 hr.2⟩
structure y6 (st st':St):Prop where
 len:st'.tm.length=st.tm.length
 tm: ∀ i,W5 (st.tm.getD i .undef) (st'.tm.getD i .undef)
 so: ∀ e'∈st'.so,e'∈st.so∨ ∃ cs cs',(⟨e'.id,none,cs,false⟩:AY)∈st.so∧e'=⟨e'.id,none,cs',false⟩∧DN cs cs'∧bt cs=false
 nd:(st'.so.map (·.id)).Nodup
 gh:st'.gh=st.gh
 pre:st'.pre=st.pre
theorem R.wkn {F:Fr} {st st':St} {a:Act} {w:World} {G:Bp} (h:R F st a w G) (k:y6 st st'):R F st' a w G:={
 dfr:=h.dfr
 size:=by rw [k.len];exact h.size
 slots:=fun i=>k.tm i _ _ _ (h.slots i)
 ghosts:=by rw [k.gh];exact h.ghosts
 store:=fun e he=>by
  rcases k.so e he with q | ⟨cs,cs',q1,q2,q3,q4⟩
  ·exact h.store e q
  ·have:=h.store _ q1
   rw [q2]
   simp only [Ck]at this ⊢
   obtain⟨b,h1,h2⟩:=this
   obtain⟨Ty,cur,h3,h4,h5⟩:=h2.cells q4
   exact⟨b,h1, .inr ⟨Ty,cur,h3,by rw [h4,q3.length],h5.imp q3⟩⟩
 deep:=fun e he=>by
  rcases k.so e he with q | ⟨cs,cs',q1,q2,q3,q4⟩
  ·exact h.deep e q
  ·have:=h.deep _ q1
   rw [q2]
   exact⟨this.1,fun hd=>by have:=(this.2 hd).1;cases this⟩
 pures:=fun e he hp=>by
  rcases k.so e he with q | ⟨cs,cs',q1,q2,q3,q4⟩
  ·exact h.pures e q hp
  ·rw [q2]at hp;cases hp
 nodup:=k.nd
 inj:=h.inj,lt:=h.lt,new:=h.new,wr:=h.wr,avlt:=h.avlt,inv:=h.inv,avold:=h.avold,os:=h.os,tape:=h.tape,output:=h.output,hsize:=h.hsize,ext:=h.ext}
theorem Wk.wkn {st st':St} (k:y6 st st'):Wk st st':=fun _ _ _ G hR=>⟨G,hR.wkn k⟩
inductive Sg where
 | v (t:VT)
 | c (x:C)
inductive VSp where
 | c (s:Sg)
 | agg (l:List Sg)
inductive ESp where
 | box (l:List Sg)
 | row (E:Nat)
structure Ix where
 ks:List Nat
 vs:List (Nat×VSp)
 ke:List AC
 es:List (AC×ESp)
def Sg.ts:List Sg→List VT
 | []=>[]
 | .v t::r=>t::Sg.ts r
 | .c _::r=>Sg.ts r
def VSp.ts:VSp→List VT
 | .c s=>Sg.ts [s]
 | .agg l=>Sg.ts l
def ESp.ts:ESp→List VT
 | .box l=>Sg.ts l
 | .row E=>[.k (.lst E)]
def xJ:List (Nat×VSp)→List VT
 | []=>[]
 | (_,p)::r=>p.ts++xJ r
def xK:List (AC×ESp)→List VT
 | []=>[]
 | (_,p)::r=>p.ts++xK r
def Ix.ts (sh:Ix):List VT:=xJ sh.vs++xK sh.es
def y7 (x c:C):Bool:=match x,c with
 | .any,_=>true
 | .osl i, .osl j=>Cp i j
 | .ptr i o, .ptr j o'=>Cp i j&&Nat.beq o o'
 | .nilp, .nilp =>true
 | .niface, .niface =>true
 | .held, .held =>true
 | .nils, .nils =>true
 | .fn f, .fn g=>Nat.beq f g
 | _,_=>false
theorem tM {x c:C} (h:y7 x c=true):N8 c x:=by
 unfold y7 at h
 split at h
 ·intro w G u hr
  simp only [As]
  exact hr.one
 ·have:=BG.1 h;subst this;exact N8.refl _
 ·simp only [Bool.and_eq_true,Nat.beq_eq]at h
  have:=BG.1 h.1;subst this;rw [h.2];exact N8.refl _
 ·exact N8.refl _
 ·exact N8.refl _
 ·exact N8.refl _
 ·exact N8.refl _
 ·have:=Nat.eq_of_beq_eq_true h;subst this;exact N8.refl _
 ·cases h
def IK:List Sg→List (DC T)→Option (List (DV T)×List (DC T))
 | [],cs=>some ([],cs)
 | .c x::r,c::cs=>match y7 x c.toC with
   | true=>IK r cs
   | false=>none
 | .v (.k _)::r,c::cs=>match IK r cs with
   | some (vs,ds)=>some (.c c::vs,ds)
   | none=>none
 | .v (.s E)::r,cs=>match Nat.ble (T.sz E) cs.length,IK r (cs.drop (T.sz E))with
   | true,some (vs,ds)=>some (.agg (cs.take (T.sz E))::vs,ds)
   | _,_=>none
 | _,_=>none
def EO:List Sg→List (DV T)→Option (List (DC T)×List (DV T))
 | [],vs=>some ([],vs)
 | .c x::r,vs=>match EO r vs with
   | some (cs,us)=>some (.c x::cs,us)
   | none=>none
 | .v _::r, .c y::vs=>match EO r vs with
   | some (cs,us)=>some (y::cs,us)
   | none=>none
 | .v _::r, .agg ds::vs=>match EO r vs with
   | some (cs,us)=>some (ds++cs,us)
   | none=>none
 | _::_,_=>none
def tN (v v':DV T):Prop:=(∃ c c',v= .c c∧v'= .c c'∧Gd c.toC=c'.toC∧c'.ok)∨(∃ cs cs',v= .agg cs∧v'= .agg cs'∧(A1 cs).map Gd=A1 cs'∧Ci cs')
inductive All2 {α β:Type} (P:α→β→Prop):List α→List β→Prop
 | nil:All2 P [] []
 | cons {a b l m}:P a b→All2 P l m→All2 P (a::l) (b::m)
theorem All2.append_inv {α β:Type} {P:α→β→Prop}: ∀ {a b:List α} {m:List β},All2 P (a++b) m→ ∃ x y,m=x++y∧All2 P a x∧All2 P b y
 | [],b,m,h=>⟨[],m,rfl, .nil,h⟩
 | c::a,b,m,h=>by
   cases h with
   | cons h1 h2=>
     obtain⟨x,y,e,p,q⟩:=All2.append_inv h2
     subst e
     exact⟨_::x,y,rfl, .cons h1 p,q⟩
theorem FE: ∀ {l:List Sg} {cs ds:List (DC T)} {vs vs':List (DV T)} {cs':List (DC T)} {us us':List (DV T)},IK l cs=some (vs,ds)→All2 tN vs vs'→EO l (vs'++us)=some (cs',us')→
 us'=us∧DN (A1 cs) (A1 cs'++A1 ds)∧Ci cs'
 | [],cs,ds,vs,vs',cs',us,us',h,hw,hi=>by
   simp only [IK,Option.some.injEq,Prod.mk.injEq]at h
   obtain⟨rfl,rfl⟩:=h
   cases hw
   simp only [EO,List.nil_append,Option.some.injEq,Prod.mk.injEq]at hi
   obtain⟨rfl,rfl⟩:=hi
   exact⟨rfl,by simpa [A1] using DN.refl _,by simp [Ci]⟩
 | .c x::r,c::cs,ds,vs,vs',cs',us,us',h,hw,hi=>by
   simp only [IK]at h
   split at h
   ·rename_i ho
    simp only [EO]at hi
    split at hi
    ·rename_i cs1 us1 h1
     simp only [Option.some.injEq,Prod.mk.injEq]at hi
     obtain⟨rfl,rfl⟩:=hi
     obtain⟨a,b,d⟩:=FE h hw h1
     refine⟨a,?_,by simp only [Ci,DC.ok];exact⟨trivial,d⟩⟩
     simp only [A1,List.cons_append,DC.toC]
     exact⟨tM ho,b⟩
    ·cases hi
   ·cases h
 | .v (.k kd)::r,c::cs,ds,vs,vs',cs',us,us',h,hw,hi=>by
   simp only [IK]at h
   split at h
   ·rename_i vs1 ds1 h1
    simp only [Option.some.injEq,Prod.mk.injEq]at h
    obtain⟨rfl,rfl⟩:=h
    cases hw with
    | cons p q=>
      rename_i b m
      rcases p with ⟨c0,c',e1,e2,e3,e4⟩ | ⟨_,_,e1,_⟩
      ·injection e1 with e1
       subst e1 e2
       simp only [List.cons_append,EO]at hi
       split at hi
       ·rename_i cs1 us1 h2
        simp only [Option.some.injEq,Prod.mk.injEq]at hi
        obtain⟨rfl,rfl⟩:=hi
        obtain⟨a,b,d⟩:=FE h1 q h2
        refine⟨a,?_,by simp only [Ci];exact⟨e4,d⟩⟩
        simp only [A1,List.cons_append]
        exact⟨N8.weak e3,b⟩
       ·cases hi
      ·cases e1
   ·cases h
 | .v (.s E)::r,cs,ds,vs,vs',cs',us,us',h,hw,hi=>by
   simp only [IK]at h
   split at h
   ·rename_i vs1 ds1 hb h1
    simp only [Option.some.injEq,Prod.mk.injEq]at h
    obtain⟨rfl,rfl⟩:=h
    cases hw with
    | cons p q=>
      rename_i b m
      rcases p with ⟨_,_,e1,_⟩ | ⟨c0,c',e1,e2,e3,e4⟩
      ·cases e1
      ·injection e1 with e1
       subst e1 e2
       simp only [List.cons_append,EO]at hi
       split at hi
       ·rename_i cs1 us1 h2
        simp only [Option.some.injEq,Prod.mk.injEq]at hi
        obtain⟨rfl,rfl⟩:=hi
        obtain⟨a,b,d⟩:=FE h1 q h2
        refine⟨a,?_,CI e4 d⟩
        have e:A1 cs=A1 (cs.take (T.sz E))++A1 (cs.drop (T.sz E)):=by rw [←B2,List.take_append_drop]
        rw [e,B2,List.append_assoc]
        exact(DN.weak e3).append b
       ·cases hi
   ·cases h
 | .c _::_,[],_,_,_,_,_,_,h,_,_=>by simp [IK]at h
 | .v (.k _)::_,[],_,_,_,_,_,_,h,_,_=>by simp [IK]at h
 | .v (.f _)::_,_,_,_,_,_,_,_,h,_,_=>by simp [IK]at h
def we:VSp→DV T→Option (List (DV T))
 | .c s, .c x=>match IK [s] [x]with
   | some (vs,[])=>some vs
   | _=>none
 | .agg l, .agg cs=>match IK l cs with
   | some (vs,[])=>some vs
   | _=>none
 | _,_=>none
def oH:VSp→List (DV T)→Option (DV T×List (DV T))
 | .c s,vs=>match EO [s] vs with
   | some ([c],us)=>some (.c c,us)
   | _=>none
 | .agg l,vs=>match EO l vs with
   | some (cs,us)=>some (.agg cs,us)
   | none=>none
theorem oI {p:VSp} {v:DV T} {vs vs' us us':List (DV T)} {v':DV T} (h:we p v=some vs) (hw:All2 tN vs vs') (hi:oH p (vs'++us)=some (v',us')):us'=us∧W5 v.toV v'.toV:=by
 unfold we at h
 split at h
 ·rename_i s x
  split at h
  ·rename_i vs1 h1
   injection h with h;subst h
   simp only [oH]at hi
   split at hi
   ·rename_i c us1 h2
    simp only [Option.some.injEq,Prod.mk.injEq]at hi
    obtain⟨rfl,rfl⟩:=hi
    obtain⟨a,b,d⟩:=FE h1 hw h2
    refine⟨a,?_⟩
    simp only [A1,List.append_nil,DN,and_true]at b
    intro w G u hr
    simp only [DV.toV,Am]at hr ⊢
    exact b _ _ _ hr
   ·cases hi
  ·cases h
 ·rename_i l cs
  split at h
  ·rename_i vs1 h1
   injection h with h;subst h
   simp only [oH]at hi
   split at hi
   ·rename_i c us1 h2
    simp only [Option.some.injEq,Prod.mk.injEq]at hi
    obtain⟨rfl,rfl⟩:=hi
    obtain⟨a,b,d⟩:=FE h1 hw h2
    refine⟨a,?_⟩
    simp only [A1,List.append_nil]at b
    intro w G u hr
    simp only [DV.toV,Am]at hr ⊢
    obtain⟨arr,e,hr⟩:=hr
    exact⟨arr,e,hr.imp b⟩
   ·cases hi
  ·cases h
 ·cases h
def oJ (v:DV T):Prop:= ∀ (H:A2 T) (n:Nat),v.ok H n
theorem JQ: ∀ {l:List Sg} {vs us:List (DV T)} {cs:List (DC T)},(∀ v∈vs,oJ v)→EO l vs=some (cs,us)→Ci cs∧ ∀ v∈us,oJ v
 | [],vs,us,cs,hv,h=>by
   simp only [EO,Option.some.injEq,Prod.mk.injEq]at h
   obtain⟨rfl,rfl⟩:=h
   exact⟨by simp [Ci],hv⟩
 | .c x::r,vs,us,cs,hv,h=>by
   simp only [EO]at h
   split at h
   ·rename_i cs1 us1 h1
    simp only [Option.some.injEq,Prod.mk.injEq]at h
    obtain⟨rfl,rfl⟩:=h
    obtain⟨a,b⟩:=JQ hv h1
    exact⟨by simp only [Ci,DC.ok];exact⟨trivial,a⟩,b⟩
   ·cases h
 | .v t::r,vs,us,cs,hv,h=>by
   match vs,hv,h with
   | .c y::vs,hv,h=>
     simp only [EO]at h
     split at h
     ·rename_i cs1 us1 h1
      simp only [Option.some.injEq,Prod.mk.injEq]at h
      obtain⟨rfl,rfl⟩:=h
      obtain⟨a,b⟩:=JQ (fun v hm=>hv v (by simp [hm])) h1
      have:=hv (.c y) (by simp) ⟨fun _=> .u,fun _=>⟨[],0, .box []⟩⟩ 0
      simp only [DV.ok]at this
      exact⟨by simp only [Ci];exact⟨this,a⟩,b⟩
     ·cases h
   | .agg ds::vs,hv,h=>
     simp only [EO]at h
     split at h
     ·rename_i cs1 us1 h1
      simp only [Option.some.injEq,Prod.mk.injEq]at h
      obtain⟨rfl,rfl⟩:=h
      obtain⟨a,b⟩:=JQ (fun v hm=>hv v (by simp [hm])) h1
      have:=hv (.agg ds) (by simp) ⟨fun _=> .u,fun _=>⟨[],0, .box []⟩⟩ 0
      simp only [DV.ok]at this
      exact⟨CI this a,b⟩
     ·cases h
   | [],_,h=>simp [EO]at h
   | .tup _::_,_,h=>simp [EO]at h
   | .g _ _::_,_,h=>simp [EO]at h
   | .u ::_,_,h=>simp [EO]at h
theorem tO {p:VSp} {vs us:List (DV T)} {v:DV T} (hv: ∀ v∈vs,oJ v) (h:oH p vs=some (v,us)):oJ v∧ ∀ v∈us,oJ v:=by
 unfold oH at h
 split at h
 ·split at h
  ·rename_i c us1 h1
   simp only [Option.some.injEq,Prod.mk.injEq]at h
   obtain⟨rfl,rfl⟩:=h
   obtain⟨a,b⟩:=JQ hv h1
   simp only [Ci,and_true]at a
   exact⟨fun H n=>by simp only [DV.ok];exact a,b⟩
  ·cases h
 ·split at h
  ·rename_i c us1 h1
   simp only [Option.some.injEq,Prod.mk.injEq]at h
   obtain⟨rfl,rfl⟩:=h
   obtain⟨a,b⟩:=JQ hv h1
   exact⟨fun H n=>by simp only [DV.ok];exact a,b⟩
  ·cases h
end Go.PL
namespace Go.PL
open Go Go.RowKit
variable {T:C1}
def cw (kd:Kd) (v:DV T):Option (ou T.den kd):=match yp v with
 | some x=>Qc true kd x
 | none=>none
def cx (E:Nat) (v:DV T):Option (T.den E):=match yq v with
 | some cs=>qx true E cs
 | none=>none
def W6:(t:VT)→DV T→Option (HR T t)
 | .k kd,v=>cw kd v
 | .s E,v=>cx E v
 | .f _,_=>none
theorem cy {kd:Kd} {v:DV T} {x:ou T.den kd} (h:cw kd v=some x):tN v (.c (.k kd x)):=by
 unfold cw at h
 split at h
 ·rename_i y hy
  exact .inl ⟨y,_,fZ hy,rfl,(Kv h).1,by simp only [DC.ok]⟩
 ·cases h
theorem cz {E:Nat} {v:DV T} {x:T.den E} (h:cx E v=some x):tN v (.agg (jX E x)):=by
 unfold cx at h
 split at h
 ·rename_i y hy
  exact .inr ⟨y,_,f0 hy,rfl,by rw [HL];exact(HM h).1,Pc E x⟩
 ·cases h
theorem Up {t:VT} {v:DV T} {x:HR T t} (h:W6 t v=some x):tN v (Lt t x):=by
 cases t with
 | k kd=>exact cy h
 | s E=>exact cz h
 | f g=>cases h
def ng {α β:Type}:Option α→Option β→Option (α×β)
 | some x,some y=>some (x,y)
 | _,_=>none
theorem kp {α β:Type} {a:Option α} {b:Option β} {x:α×β} (h:ng a b=some x):a=some x.1∧b=some x.2:=by
 cases a<;>cases b<;>simp [ng]at h
 subst h;exact⟨rfl,rfl⟩
def cA:(ts:List VT)→List (DV T)→Option (RT T ts)
 | [],[]=>some ()
 | [t],[v]=>W6 t v
 | t::u::ts,v::vs=>ng (W6 t v) (cA (u::ts) vs)
 | _,_=>none
theorem Uq: ∀ {ts:List VT} {vs:List (DV T)} {x:RT T ts},cA ts vs=some x→All2 tN vs (Cn ts x)
 | [],[],x,_=> .nil
 | [],_::_,x,h=>by cases (show (none:Option (RT T []))=some x from h)
 | [t],[v],x,h=> .cons (Up (show W6 t v=some x from h)) .nil
 | [t],[],x,h=>by cases (show (none:Option (RT T [t]))=some x from h)
 | [t],v::w::vs,x,h=>by cases (show (none:Option (RT T [t]))=some x from h)
 | t::u::ts,[],x,h=>by cases (show (none:Option (RT T (t::u::ts)))=some x from h)
 | t::u::ts,v::vs,x,h=>by
   obtain⟨h1,h2⟩:=kp (show ng (W6 t v) (cA (u::ts) vs)=some x from h)
   exact .cons (Up h1) (Uq h2)
theorem ED (ts:List VT) (x:RT T ts): ∀ v∈Cn ts x,oJ v:=fun v hv H n=>HJ.1 (Sr (H:=H) (nx:=n) ts x) v hv
def Mq (tm:Tm T):List (Nat×VSp)→Option (List (DV T))
 | []=>some []
 | (s,p)::r=>match we p (lk tm s),Mq tm r with
   | some a,some b=>some (a++b)
   | _,_=>none
def Gp:List (Nat×VSp)→List (DV T)→Az T→Option (Az T×List (DV T))
 | [],vs,st=>some (st,vs)
 | (s,p)::r,vs,st=>match oH p vs with
   | some (v,us)=>Gp r us (st.put (some s) v)
   | none=>none
theorem IL {H:A2 T} {st0:Az T}: ∀ {l:List (Nat×VSp)} {vs us:List (DV T)} {st st':Az T} {H1:A2 T},Nx H st0 H1 st→(∀ v∈vs,oJ v)→Gp l vs st=some (st',us)→
 (∃ H',Nx H st0 H' st')∧(∀ v∈us,oJ v)∧st'.so=st.so∧st'.gh=st.gh∧st'.pre=st.pre∧st'.m=st.m
 | [],vs,us,st,st',H1,hn,hv,h=>by
   simp only [Gp,Option.some.injEq,Prod.mk.injEq]at h
   obtain⟨rfl,rfl⟩:=h
   exact⟨⟨H1,hn⟩,hv,rfl,rfl,rfl,rfl⟩
 | (s,p)::r,vs,us,st,st',H1,hn,hv,h=>by
   simp only [Gp]at h
   split at h
   ·rename_i v us1 h1
    obtain⟨a,b⟩:=tO hv h1
    obtain⟨H2,h2⟩:=Az.put_spec hn (some s) (a H1 _)
    obtain⟨c1,c2,c3,c4,c5,c6⟩:=IL h2 b h
    exact⟨c1,c2,c3,c4,c5,c6⟩
   ·cases h
theorem rh (st:Az T) (s i:Nat) (v:DV T):lk (st.put (some s) v).tm i=if s=i then v else lk st.tm i:=by
 simp only [Az.put,lk]
 by_cases h:s=i
 ·subst h;simp
 ·rw [if_neg h]
  have:Nat.beq s i=false:=by
   cases hb:Nat.beq s i
   ·rfl
   ·exact absurd (Nat.eq_of_beq_eq_true hb) h
  rw [this]
theorem am {tm:Tm T}: ∀ {l:List (Nat×VSp)} {vs vs' us us':List (DV T)} {st st':Az T},Mq tm l=some vs→All2 tN vs vs'→Gp l (vs'++us) st=some (st',us')→(∀ i,W5 (lk tm i).toV (lk st.tm i).toV)→
 us'=us∧ ∀ i,W5 (lk tm i).toV (lk st'.tm i).toV
 | [],vs,vs',us,us',st,st',h,hw,hi,hs=>by
   simp only [Mq,Option.some.injEq]at h
   subst h
   cases hw
   simp only [Gp,List.nil_append,Option.some.injEq,Prod.mk.injEq]at hi
   obtain⟨rfl,rfl⟩:=hi
   exact⟨rfl,hs⟩
 | (s,p)::r,vs,vs',us,us',st,st',h,hw,hi,hs=>by
   simp only [Mq]at h
   split at h
   ·rename_i a b h1 h2
    injection h with h;subst h
    obtain⟨x,y,rfl,k1,k2⟩:=All2.append_inv hw
    simp only [Gp]at hi
    split at hi
    ·rename_i v us1 h3
     rw [List.append_assoc]at h3
     obtain⟨e,hv⟩:=oI h1 k1 h3
     subst e
     refine am h2 k2 hi fun i=>?_
     rw [rh]
     split
     ·rename_i e;subst e;exact hv
     ·exact hs i
    ·cases hi
   ·cases h
def wg (l:List (DE T)) (id:AC) (p:ESp):Option (List (DV T)):=match JL l id,p with
 | some e, .box sg=>match e.x with
   | .box cs=>match mY cs,IK sg cs with
     | false,some (vs,[])=>some vs
     | _,_=>none
   | _=>none
 | some e, .row E0=>match e.x with
   | .row E l=>match Nat.beq E E0 with
     | true=>some [.c (.k (.lst E) l)]
     | false=>none
   | _=>none
 | none,_=>none
def oK:ESp→List (DV T)→Option (DX T×List (DV T))
 | .box sg,vs=>match EO sg vs with
   | some (cs,us)=>some (.box cs,us)
   | none=>none
 | .row E0, .c (.k (.lst E) l)::vs=>match Nat.beq E E0 with
   | true=>some (.row E l,vs)
   | false=>none
 | _,_=>none
def Qn (l:List (DE T)):List (AC×ESp)→Option (List (DV T))
 | []=>some []
 | (id,p)::r=>match wg l id p,Qn l r with
   | some a,some b=>some (a++b)
   | _,_=>none
def Az.addE (st:Az T) (id:AC) (x:DX T):Az T:={st with so:=⟨id,st.nx,x⟩::st.so,nx:=st.nx+1}
def gc (id:AC):List (DE T)→Bool
 | []=>false
 | e::r=>match Cp e.id id with
   | true=>true
   | false=>gc id r
theorem W7 {id:AC}: ∀ {l:List (DE T)},gc id l=false→ ∀ e∈l,e.id ≠ id
 | [],_,_,h=>by cases h
 | a::r,h,e,he=>by
   unfold gc at h
   split at h
   ·cases h
   ·rename_i hb
    rcases List.mem_cons.1 he with rfl | he
    ·intro q;rw [BG.2 q]at hb;cases hb
    ·exact W7 h e he
def G3:List (AC×ESp)→List (DV T)→Az T→Option (Az T×List (DV T))
 | [],vs,st=>some (st,vs)
 | (id,p)::r,vs,st=>match oK p vs,gc id st.so with
   | some (x,us),false=>G3 r us (st.addE id x)
   | _,_=>none
theorem tP {p:ESp} {vs us:List (DV T)} {x:DX T} (hv: ∀ v∈vs,oJ v) (h:oK p vs=some (x,us)):x.ok∧ ∀ v∈us,oJ v:=by
 unfold oK at h
 split at h
 ·split at h
  ·rename_i cs us1 h1
   simp only [Option.some.injEq,Prod.mk.injEq]at h
   obtain⟨rfl,rfl⟩:=h
   exact JQ hv h1
  ·cases h
 ·split at h
  ·simp only [Option.some.injEq,Prod.mk.injEq]at h
   obtain⟨rfl,rfl⟩:=h
   exact⟨trivial,fun v hm=>hv v (by simp [hm])⟩
  ·cases h
 ·cases h
theorem tQ {H H1:A2 T} {st0 st:Az T} (hn:Nx H st0 H1 st) {id:AC} {x:DX T} (hx:x.ok) (hid:gc id st.so=false): ∃ H',Nx H st0 H' (st.addE id x):=by
 have he:=C5.setE H1 st.nx ⟨id,st.nx,x⟩
 refine⟨H1.setE st.nx ⟨id,st.nx,x⟩,hn.trans ⟨he,Nat.le_succ _,?_,?_,?_,?_⟩⟩
 ·exact Cc he (Nat.le_succ _) hn.ok.tm
 ·exact fun f hf=>Cc he (Nat.le_succ _) (hn.ok.gh f hf)
 ·intro e hm
  rcases List.mem_cons.1 hm with rfl | hm
  ·exact⟨Nat.lt_succ_self _,by simp [A2.setE],hx⟩
  ·exact EV he (Nat.le_succ _) hn.ok.so e hm
 ·simp only [Az.addE,List.map_cons]
  refine List.nodup_cons.2 ⟨fun hm=>?_,hn.ok.nd⟩
  obtain⟨e,h1,h2⟩:=List.mem_map.1 hm
  exact W7 hid e h1 h2
theorem KA {H:A2 T} {st0:Az T}: ∀ {l:List (AC×ESp)} {vs us:List (DV T)} {st st':Az T} {H1:A2 T},Nx H st0 H1 st→(∀ v∈vs,oJ v)→G3 l vs st=some (st',us)→
 (∃ H',Nx H st0 H' st')∧st'.tm=st.tm∧st'.gh=st.gh∧st'.pre=st.pre∧st'.m=st.m
 | [],vs,us,st,st',H1,hn,hv,h=>by
   simp only [G3,Option.some.injEq,Prod.mk.injEq]at h
   obtain⟨rfl,rfl⟩:=h
   exact⟨⟨H1,hn⟩,rfl,rfl,rfl,rfl⟩
 | (id,p)::r,vs,us,st,st',H1,hn,hv,h=>by
   simp only [G3]at h
   split at h
   ·rename_i x us1 h1 h2
    obtain⟨a,b⟩:=tP hv h1
    obtain⟨H2,h3⟩:=tQ hn a h2
    obtain⟨c1,c2,c3,c4,c5⟩:=KA h3 b h
    exact⟨c1,c2,c3,c4,c5⟩
   ·cases h
def tR (l:List (DE T)) (e':DE T):Prop:=e'.toE∈l.map DE.toE∨ ∃ cs cs',(⟨e'.id,none,cs,false⟩:AY)∈l.map DE.toE∧e'.toE=⟨e'.id,none,cs',false⟩∧DN cs cs'∧bt cs=false
theorem oL {l:List (DE T)} {id:AC} {p:ESp} {vs vs' us us':List (DV T)} {x:DX T} (h:wg l id p=some vs) (hw:All2 tN vs vs') (hi:oK p (vs'++us)=some (x,us')) (t:Nat):us'=us∧tR l ⟨id,t,x⟩:=by
 unfold wg at h
 split at h
 ·rename_i e sg he
  obtain⟨m1,m2,_⟩:=HO he
  split at h
  ·rename_i cs hx
   split at h
   ·rename_i vs1 hm h1
    injection h with h;subst h
    simp only [oK]at hi
    split at hi
    ·rename_i cs' us1 h2
     simp only [Option.some.injEq,Prod.mk.injEq]at hi
     obtain⟨rfl,rfl⟩:=hi
     obtain⟨a,b,d⟩:=FE h1 hw h2
     simp only [A1,List.append_nil]at b
     refine⟨a, .inr ⟨A1 cs,A1 cs',List.mem_map.2 ⟨e,m1,by rw [DE.toE_box hx,m2]⟩,rfl,b,Z0 hm (fun c _ kv q=>qy c kv q)⟩⟩
    ·cases hi
   ·cases h
  ·cases h
 ·rename_i e E0 he
  obtain⟨m1,m2,_⟩:=HO he
  split at h
  ·rename_i E l' hx
   split at h
   ·rename_i hE
    have hE:=Nat.eq_of_beq_eq_true hE
    subst hE
    injection h with h;subst h
    cases hw with
    | cons k1 k2=>
      cases k2
      rcases k1 with ⟨c,c',e1,e2,e3,e4⟩ | ⟨_,_,e1,_⟩
      ·injection e1 with e1
       subst e1 e2
       simp only [List.cons_append,List.nil_append]at hi
       unfold oK at hi
       split at hi
       ·rename_i q;cases q
       ·rename_i E0 E' l'' vs0 q1 q2
        injection q1 with q1
        subst q1
        injection q2 with q2 q3
        injection q2 with q2
        subst q2 q3
        split at hi
        ·rename_i hE
         have hE:=Nat.eq_of_beq_eq_true hE
         subst hE
         simp only [Option.some.injEq,Prod.mk.injEq]at hi
         obtain⟨rfl,rfl⟩:=hi
         refine⟨rfl, .inl (List.mem_map.2 ⟨e,m1,?_⟩)⟩
         rw [DE.toE_row hx,m2]
         simp only [DC.toC,B7,Gd,C.sl.injEq]at e3
         simp only [DE.toE,e3.1,e3.2]
        ·cases hi
       ·cases hi
      ·cases e1
   ·cases h
  ·cases h
 ·cases h
end Go.PL
namespace Go.PL
open Go Go.RowKit
variable {T:C1}
theorem ge {L:List (DE T)}: ∀ {l:List (AC×ESp)} {vs vs' us us':List (DV T)} {st st':Az T},Qn L l=some vs→All2 tN vs vs'→G3 l (vs'++us) st=some (st',us')→(∀ e∈st.so,tR L e)→
 us'=us∧ ∀ e∈st'.so,tR L e
 | [],vs,vs',us,us',st,st',h,hw,hi,hs=>by
   simp only [Qn,Option.some.injEq]at h
   subst h
   cases hw
   simp only [G3,List.nil_append,Option.some.injEq,Prod.mk.injEq]at hi
   obtain⟨rfl,rfl⟩:=hi
   exact⟨rfl,hs⟩
 | (id,p)::r,vs,vs',us,us',st,st',h,hw,hi,hs=>by
   simp only [Qn]at h
   split at h
   ·rename_i a b h1 h2
    injection h with h;subst h
    obtain⟨x,y,rfl,k1,k2⟩:=All2.append_inv hw
    simp only [G3]at hi
    split at hi
    ·rename_i v us1 h3 h4
     rw [List.append_assoc]at h3
     obtain⟨e,hv⟩:=oL h1 k1 h3 st.nx
     subst e
     refine ge h2 k2 hi fun e he=>?_
     rcases List.mem_cons.1 he with rfl | he
     ·exact hv
     ·exact hs e he
    ·cases hi
   ·cases h
def Mr (ks:List Nat):Tm T→Tm T
 | []=>[]
 | (s,t,v)::r=>match JI ks s with
   | true=>(s,t,v)::Mr ks r
   | false=>Mr ks r
def Sx:List AC→AC→Bool
 | [],_=>false
 | a::l,b=>match Cp a b with
   | true=>true
   | false=>Sx l b
def Pl (ke:List AC):List (DE T)→List (DE T)
 | []=>[]
 | e::r=>match Sx ke e.id with
   | true=>e::Pl ke r
   | false=>Pl ke r
theorem Pm {ks:List Nat}: ∀ {tm:Tm T} {x:Nat×Nat×DV T},x∈Mr ks tm→x∈tm
 | [],_,h=>h
 | (s,t,v)::r,x,h=>by
   unfold Mr at h
   split at h
   ·rcases List.mem_cons.1 h with rfl | h
    ·simp
    ·simp [Pm h]
   ·simp [Pm h]
theorem ao {ks:List Nat} (i:Nat): ∀ tm:Tm T,lk (Mr ks tm) i=(match JI ks i with | true=>lk tm i | false=> .u)
 | []=>by cases JI ks i<;>rfl
 | (s,t,v)::r=>by
   have ih:=ao (ks:=ks) i r
   unfold Mr
   cases hs:JI ks s with
   | true=>
     simp only [lk]
     cases hb:Nat.beq s i with
     | true=>
       have:=Nat.eq_of_beq_eq_true hb
       subst this
       rw [hs]
     | false=>exact ih
   | false=>
     simp only
     rw [ih]
     cases hi:JI ks i with
     | true=>
       simp only [lk]
       cases hb:Nat.beq s i with
       | true=>
         have:=Nat.eq_of_beq_eq_true hb
         subst this
         rw [hs]at hi;cases hi
       | false=>rfl
     | false=>rfl
theorem W8 {b:AC}: ∀ {l:List AC},Sx l b=true↔b∈l
 | []=>by simp [Sx]
 | a::l=>by
   unfold Sx
   cases h:Cp a b with
   | true=>have:=BG.1 h;subst this;simp
   | false=>
     have:b ≠ a:=fun e=>by rw [BG.2 e.symm]at h;cases h
     simp [W8 (l:=l),this]
theorem HS (ke:List AC): ∀ l:List (DE T),(Pl ke l).Sublist l∧ ∀ e∈Pl ke l,e.id∈ke
 | []=>⟨List.Sublist.slnil,fun _ h=>by cases h⟩
 | e::r=>by
   obtain⟨a,b⟩:=HS ke r
   unfold Pl
   split
   ·rename_i h
    refine⟨a.cons_cons _,fun x hx=>?_⟩
    rcases List.mem_cons.1 hx with rfl | hx
    ·exact W8.1 h
    ·exact b x hx
   ·exact⟨a.cons _,b⟩
def Ix.base (sh:Ix) (st:Az T):Az T:={st with tm:=Mr sh.ks st.tm,so:=Pl sh.ke st.so}
theorem Ix.base_nx {H:A2 T} (sh:Ix) {st:Az T} (h:BV H st):Nx H st H (sh.base st):=
 ⟨C5.refl _ _,Nat.le_refl _,fun s t v hm=>h.tm s t v (Pm hm),h.gh,fun e he=>h.so e ((HS _ _).1.subset he),List.Sublist.nodup ((HS _ _).1.map _) h.nd⟩
def Ix.inst (sh:Ix) (st:Az T) (vs:List (DV T)):Option (Az T):=match Gp sh.vs vs (sh.base st)with
 | some (s,us)=>match G3 sh.es us s with
   | some (s',_)=>some s'
   | none=>none
 | none=>none
theorem Ix.inst_nx {H:A2 T} {sh:Ix} {st s':Az T} (h:BV H st) {vs:List (DV T)} (hv: ∀ v∈vs,oJ v) (hi:sh.inst st vs=some s'): ∃ H',Nx H st H' s':=by
 unfold Ix.inst at hi
 split at hi
 ·rename_i s us h1
  split at hi
  ·rename_i s2 us2 h2
   injection hi with hi;subst hi
   obtain⟨⟨H1,a⟩,b,_⟩:=IL (sh.base_nx h) hv h1
   exact(KA a b h2).1
  ·cases hi
 ·cases hi
def nh (ks:List Nat) (tm tm0:Tm T):Bool:=match ks with
 | []=>true
 | s::r=>match Nat.beq (Yx tm s) (Yx tm0 s)with
   | true=>nh r tm tm0
   | false=>false
def ni (ke:List AC) (l l0:List (DE T)):Bool:=match ke with
 | []=>true
 | i::r=>match JL l i,JL l0 i with
   | some a,some b=>match Nat.beq a.tag b.tag with
     | true=>ni r l l0
     | false=>false
   | _,_=>false
def oM:Tm T→Tm T→Bool
 | [],[]=>true
 | (s,t,_)::r,(s',t',_)::r'=>match Nat.beq s s'&&Nat.beq t t' with
   | true=>oM r r'
   | false=>false
 | _,_=>false
def oN:List (Nat×Tm T)→List (Nat×Tm T)→Bool
 | [],[]=>true
 | (m,tm)::r,(m',tm')::r'=>match Nat.beq m m'&&oM tm tm' with
   | true=>oN r r'
   | false=>false
 | _,_=>false
theorem W9: ∀ {ks:List Nat} {tm tm0:Tm T},nh ks tm tm0=true→ ∀ s,JI ks s=true→Yx tm s=Yx tm0 s
 | [],_,_,_,s,hs=>by simp [JI]at hs
 | a::r,tm,tm0,h,s,hs=>by
   unfold nh at h
   split at h
   ·rename_i hb
    rw [HH]at hs
    rcases List.mem_cons.1 hs with rfl | hs
    ·exact Nat.eq_of_beq_eq_true hb
    ·exact W9 h s (HH.2 hs)
   ·cases h
theorem Xa: ∀ {ke:List AC} {l l0:List (DE T)},ni ke l l0=true→ ∀ i∈ke, ∃ a b,JL l i=some a∧JL l0 i=some b∧a.tag=b.tag
 | [],_,_,_,i,hi=>by cases hi
 | k::r,l,l0,h,i,hi=>by
   unfold ni at h
   split at h
   ·rename_i a b h1 h2
    split at h
    ·rename_i hb
     rcases List.mem_cons.1 hi with rfl | hi
     ·exact⟨a,b,h1,h2,Nat.eq_of_beq_eq_true hb⟩
     ·exact Xa h i hi
    ·cases h
   ·cases h
theorem aq {H H':A2 T} {n n':Nat} (he:C5 n H H'): ∀ {tm tm':Tm T},oM tm' tm=true→Pb H n tm→Pb H' n' tm'→tm'=tm
 | [],[],_,_,_=>rfl
 | [],_::_,h,_,_=>by simp [oM]at h
 | _::_,[],h,_,_=>by simp [oM]at h
 | (s,t,v)::r,(s',t',v')::r',h,a,b=>by
   unfold oM at h
   split at h
   ·rename_i hb
    simp only [Bool.and_eq_true,Nat.beq_eq]at hb
    obtain⟨rfl,rfl⟩:=hb
    obtain⟨a1,a2,_⟩:=a s' t' v (by simp)
    obtain⟨_,b2,_⟩:=b s' t' v' (by simp)
    have:v'=v:=by rw [←a2, ←b2,(he t' a1).1]
    subst this
    rw [aq he h (fun s t v hm=>a s t v (by simp [hm])) (fun s t v hm=>b s t v (by simp [hm]))]
   ·cases h
theorem ar {H H':A2 T} {n n':Nat} (he:C5 n H H'): ∀ {l l':List (Nat×Tm T)},oN l' l=true→(∀ f∈l,Pb H n f.2)→(∀ f∈l',Pb H' n' f.2)→l'=l
 | [],[],_,_,_=>rfl
 | [],_::_,h,_,_=>by simp [oN]at h
 | _::_,[],h,_,_=>by simp [oN]at h
 | (m,tm)::r,(m',tm')::r',h,a,b=>by
   unfold oN at h
   split at h
   ·rename_i hb
    simp only [Bool.and_eq_true,Nat.beq_eq]at hb
    obtain⟨rfl,hb⟩:=hb
    rw [aq he hb (a (m',tm) (by simp)) (b (m',tm') (by simp)),ar he h (fun f hm=>a f (by simp [hm])) (fun f hm=>b f (by simp [hm]))]
   ·cases h
def Jh:List AC→Az T→Az T
 | [],st=>st
 | i::r,st=>match st.frz i with
   | some s=>Jh r s
   | none=>Jh r st
theorem IM {H0:A2 T} {st0:Az T}: ∀ {l:List AC} {st:Az T} {H:A2 T},Nx H0 st0 H st→(∃ H',Nx H0 st0 H' (Jh l st))∧Wk st.toSt (Jh l st).toSt
 | [],st,H,h=>⟨⟨H,h⟩,Wk.less (Ch.refl _)⟩
 | i::r,st,H,h=>by
   unfold Jh
   split
   ·rename_i s hs
    obtain⟨⟨H1,a⟩,b,_⟩:=Az.frz_spec h.ok hs
    obtain⟨c,d⟩:=IM (l:=r) (h.trans a)
    exact⟨c,Wk.trans (b▸Wk.frz _ _) d⟩
   ·exact IM (l:=r) h
def uV:List (AC×ESp)→List AC
 | []=>[]
 | (i,_)::r=>i::uV r
def ri (tm:Tm T):List (Nat×VSp)→List AC
 | []=>[]
 | (s,_)::r=>aj (lk tm s)++ri tm r
def cB (l:List (DE T)):List (AC×ESp)→List AC
 | []=>[]
 | (i,_)::r=>match JL l i with
   | some e=>match e.x with
     | .box cs=>ai cs++cB l r
     | _=>cB l r
   | none=>cB l r
def rj (l:List AC):List AC→List AC
 | []=>[]
 | i::r=>match Sx l i with
   | true=>rj l r
   | false=>i::rj l r
def Ix.frz (sh:Ix) (st:Az T):List AC:=rj (sh.ke++uV sh.es) (ri st.tm sh.vs++cB st.so sh.es)
def Ix.gen1 (sh:Ix) (st0 s:Az T):Option (RT T sh.ts):=
 match nh sh.ks s.tm st0.tm&&(ni sh.ke s.so st0.so&&(oN s.gh st0.gh&&(Nat.beq s.m st0.m&&Cp s.pre st0.pre)))with
 | true=>match Mq s.tm sh.vs,Qn s.so sh.es with
   | some a,some b=>cA sh.ts (a++b)
   | _,_=>none
 | false=>none
def Ix.gen (sh:Ix) (st0 st':Az T):Option (RT T sh.ts):=sh.gen1 st0 (Jh (sh.frz st') st')
theorem cC {l:List (DE T)} (hn:(l.map DE.id).Nodup): ∀ {e:DE T},e∈l→JL l e.id=some e:=by
 induction l with
 | nil=>intro e h;cases h
 | cons a r ih=>
   intro e h
   rw [List.map_cons]at hn
   obtain⟨n1,n2⟩:=List.nodup_cons.1 hn
   unfold JL
   split
   ·rename_i hb
    have hb:=BG.1 hb
    rcases List.mem_cons.1 h with rfl | h
    ·rfl
    ·exact absurd (List.mem_map.2 ⟨e,h,hb.symm⟩) n1
   ·rename_i hb
    rcases List.mem_cons.1 h with rfl | h
    ·rw [BG.2 rfl]at hb;cases hb
    ·exact ih n2 h
theorem Ix.gen1_ok {H H':A2 T} {sh:Ix} {st0 s s1:Az T} (h0:BV H st0) (hN:Nx H st0 H' s) {x:RT T sh.ts} (hg:sh.gen1 st0 s=some x) (hi:sh.inst st0 (Cn sh.ts x)=some s1):y6 s.toSt s1.toSt:=by
 unfold Ix.gen1 at hg
 split at hg
 ·rename_i hb
  simp only [Bool.and_eq_true,Nat.beq_eq]at hb
  obtain⟨k1,k2,k3,k4,k5⟩:=hb
  split at hg
  ·rename_i a b ga gb
   have hw:=Uq hg
   obtain⟨va,vb,hv,wa,wb⟩:=All2.append_inv hw
   unfold Ix.inst at hi
   split at hi
   ·rename_i s2 us h1
    split at hi
    ·rename_i s3 us2 h2
     injection hi with hi;subst hi
     rw [hv]at h1
     have hpv:=ED sh.ts x
     rw [hv]at hpv
     obtain⟨⟨H1,n1⟩,n2,n3,n4,n5,n6⟩:=IL (sh.base_nx h0) hpv h1
     have hbase: ∀ i,W5 (lk s.tm i).toV (lk (sh.base st0).tm i).toV :=by
      intro i
      show W5 (lk s.tm i).toV (lk (Mr sh.ks st0.tm) i).toV
      rw [ao]
      cases hm:JI sh.ks i with
      | false=>simp only [DV.toV];intro w G u _;simp only [Am]
      | true=>
        simp only
        have ht:=W9 k1 i hm
        have:lk s.tm i=lk st0.tm i:=by
         rcases Qa st0.tm i with ⟨q1,q2⟩ | ⟨t,q1,q2⟩
         ·rw [q2]at ht
          rcases Qa s.tm i with ⟨r1,r2⟩ | ⟨t,r1,r2⟩
          ·rw [r1,q1]
          ·rw [r2]at ht;cases ht
         ·obtain⟨p1,p2⟩:=ck h0.tm q2
          obtain⟨p3,p4⟩:=ck hN.ok.tm (ht.trans q2)
          rw [←p2, ←p4,(hN.ext t p1).1]
        rw [this]
        exact W5.refl _
     obtain⟨e1,hsl⟩:=am (us:=vb) ga wa h1 hbase
     subst e1
     have hpb: ∀ v∈us,oJ v:=n2
     obtain⟨⟨H2,m1⟩,m2,m3,m4,m5⟩:=KA n1 hpb h2
     have hso0: ∀ e∈s2.so,tR s.so e:=by
      intro e he
      rw [n3]at he
      have he:e∈Pl sh.ke st0.so:=he
      have hid:=(HS sh.ke st0.so).2 e he
      have hmem:=(HS sh.ke st0.so).1.subset he
      obtain⟨a',b',q1,q2,q3⟩:=Xa k2 e.id hid
      rw [cC h0.nd hmem]at q2
      injection q2 with q2;subst q2
      obtain⟨t1,t2,_⟩:=h0.so e hmem
      obtain⟨u1,u2,_⟩:=HO q1
      obtain⟨v1,v2,_⟩:=hN.ok.so a' u1
      have:a'=e:=by rw [←t2, ←v2,q3,(hN.ext e.tag t1).2]
      subst this
      exact .inl (List.mem_map.2 ⟨a',u1,rfl⟩)
     have h2':G3 sh.es (us++[]) s2=some (s3,us2):=by rw [List.append_nil];exact h2
     obtain⟨_,hen⟩:=ge gb wb h2' hso0
     have hgh:=ar hN.ext k3 h0.gh hN.ok.gh
     exact {
      len:=by
       simp only [Az.toSt,Bv,List.length_map,List.length_range]
       rw [m5,n6,k4];rfl
      tm:=fun i=>by
       show W5 ((Bv s.m s.tm).getD i .undef) ((Bv s3.m s3.tm).getD i .undef)
       rw [ZX,ZX,m5,n6,m2]
       have:(sh.base st0).m =s.m:=k4.symm
       rw [this]
       cases Nat.blt i s.m
       ·exact W5.refl _
       ·exact hsl i
      so:=fun e' he'=>by
       obtain⟨d,hd,rfl⟩:=List.mem_map.1 he'
       rcases hen d hd with q | ⟨cs,cs',q1,q2,q3,q4⟩
       ·exact .inl q
       ·exact .inr ⟨cs,cs',by rw [DE.toE_id];exact q1,by rw [DE.toE_id];exact q2,q3,q4⟩
      nd:=by
       have:=m1.ok.nd
       show ((s3.so.map DE.toE).map AY.id).Nodup
       rw [List.map_map]
       have e:(AY.id ∘ DE.toE:DE T→AC)=DE.id:=by funext d;exact DE.toE_id d
       rw [e];exact this
      gh:=by
       simp only [Az.toSt]
       rw [m3,n4,hgh];rfl
      pre:=by
       simp only [Az.toSt]
       rw [m4,n5,BG.1 k5];rfl}
    ·cases hi
   ·cases hi
  ·cases hg
 ·cases hg
theorem Ix.gen_ok {H H':A2 T} {sh:Ix} {st0 st' s1:Az T} (h0:BV H st0) (hN:Nx H st0 H' st') {x:RT T sh.ts} (hg:sh.gen st0 st'=some x) (hi:sh.inst st0 (Cn sh.ts x)=some s1):Wk st'.toSt s1.toSt:=by
 obtain⟨⟨H1,a⟩,b⟩:=IM (l:=sh.frz st') hN
 exact b.trans (Wk.wkn (Ix.gen1_ok h0 a hg hi))
end Go.PL
namespace Go.PL
open Go Go.RowKit
variable {T:C1}
def EW:Nat→List (DV T)→Az T→Az T
 | _,[],st=>st
 | i,v::vs,st=>EW (i+1) vs (st.put (some i) v)
theorem Pn {H:A2 T} {st0:Az T}: ∀ {vs:List (DV T)} {i:Nat} {st:Az T} {H1:A2 T},Nx H st0 H1 st→Dg H st0.nx vs→ ∃ H',Nx H st0 H' (EW i vs st)
 | [],_,st,H1,h,_=>⟨H1,h⟩
 | v::vs,i,st,H1,h,hv=>by
   simp only [Dg]at hv
   obtain⟨H2,h2⟩:=Az.put_spec h (some i) (DV.ok_ext h.ext h.le hv.1)
   show ∃ H',Nx H st0 H' (EW (i+1) vs (st.put (some i) v))
   exact Pn h2 hv.2
theorem KB: ∀ (vs:List (DV T)) (i:Nat) (st:Az T),(EW i vs st).so =st.so∧(EW i vs st).gh =st.gh∧(EW i vs st).pre =st.pre∧(EW i vs st).m =st.m
 | [],_,_=>⟨rfl,rfl,rfl,rfl⟩
 | v::vs,i,st=>KB vs (i+1) (st.put (some i) v)
theorem Po: ∀ (vs:List (DV T)) (i:Nat) (st:Az T) (j:Nat),lk (EW i vs st).tm j=if i≤j∧j<i+vs.length then vs.getD (j - i) .u else lk st.tm j
 | [],i,st,j=>by
   rw [if_neg (by simp)];rfl
 | v::vs,i,st,j=>by
   rw [EW,Po vs (i+1) _ j,rh]
   by_cases h1:i+1≤j∧j<i+1+vs.length
   ·rw [if_pos h1,if_pos ⟨by omega,by simp;omega⟩,show j - i=(j - (i+1))+1 by omega,List.getD_cons_succ]
   ·rw [if_neg h1]
    by_cases h2:i=j
    ·subst h2
     rw [if_pos rfl,if_pos ⟨by omega,by simp⟩,Nat.sub_self,List.getD_cons_zero]
    ·rw [if_neg h2,if_neg (by simp;omega)]
def Az.enter (st:Az T) (k:Nat) (args:List (DV T)) (n:Nat):Az T:=EW 0 args ⟨n,[],st.so,(st.m,st.tm)::st.gh,k::st.pre,st.nx⟩
theorem rk {H:A2 T} {st:Az T} (h:BV H st) (k:Nat) {args:List (DV T)} (n:Nat) (ha:Dg H st.nx args): ∃ H',Nx H st H' (st.enter k args n):=by
 refine Pn (H1:=H) (st:=⟨n,[],st.so,(st.m,st.tm)::st.gh,k::st.pre,st.nx⟩) ⟨C5.refl _ _,Nat.le_refl _,⟨fun _ _ _ hm=>by simp at hm,fun f hf=>?_,h.so,h.nd⟩⟩ ha
 rcases List.mem_cons.1 hf with rfl | hf
 ·exact h.tm
 ·exact h.gh f hf
theorem Xb {m:Nat} {tm:Tm T} {vs:List (DV T)} (hl:vs.length≤m) (h: ∀ j,lk tm j=if j<vs.length then vs.getD j .u else .u):Bv m tm=Bx vs++List.replicate (m - (Bx vs).length) .undef :=by
 rw [Gk]
 apply List.ext_getElem?
 intro i
 unfold Bv
 rw [List.getElem?_map]
 by_cases hi:i<vs.length
 ·rw [List.getElem?_range (by omega),List.getElem?_append_left (by rw [Gk];exact hi)]
  simp only [Option.map_some,h,if_pos hi]
  rw [Mf,List.getElem?_map,List.getD_eq_getElem?_getD,List.getElem?_eq_getElem hi];rfl
 ·rw [List.getElem?_append_right (by rw [Gk];omega),Gk,List.getElem?_replicate]
  by_cases hm:i<m
  ·rw [List.getElem?_range hm,if_pos (by omega)]
   simp only [Option.map_some,h,if_neg hi,DV.toV]
  ·rw [List.getElem?_eq_none (by simpa using hm),if_neg (by omega)];rfl
theorem kq {st:Az T} {k:Nat} {args:List (DV T)} {n:Nat} (hl:args.length≤n):(st.enter k args n).toSt =st.toSt.enter k (Bx args) n:=by
 obtain⟨a,b,c,d⟩:=KB args 0 (⟨n,[],st.so,(st.m,st.tm)::st.gh,k::st.pre,st.nx⟩:Az T)
 unfold Az.enter
 simp only [Az.toSt,a,b,c,d,St.enter,List.flatMap_cons]
 rw [Xb hl]
 intro j
 rw [Po]
 simp only [Nat.zero_le,true_and,Nat.zero_add,Nat.sub_zero]
 rfl
def Az.back (st st0:Az T) (d:Option Nat) (v:DV T):Option (Az T):=match st.gh with
 | (m',tm')::g=>match Nat.beq m' st0.m with
   | true=>some (({st with m:=m',tm:=tm',gh:=g,pre:=st0.pre}:Az T).put d v)
   | false=>none
 | []=>none
theorem Oo (m:Nat) (tm:Tm T):(Bv m tm).length =m:=by simp [Bv]
theorem oO {H H1:A2 T} {st st0 b:Az T} {d:Option Nat} {v:DV T} (hN:Nx H st0 H1 st) (hv:v.ok H1 st.nx) (h:st.back st0 d v=some b):(∃ H',Nx H st0 H' b)∧b.toSt=st.toSt.back st0.m st0.pre d v.toV∧b.pre=st0.pre:=by
 unfold Az.back at h
 split at h
 ·rename_i m' tm' g hg
  split at h
  ·rename_i hm
   have hm:=Nat.eq_of_beq_eq_true hm
   injection h with h;subst h
   have hgh:=hN.ok.gh
   rw [hg]at hgh
   have n1:Nx H st0 H1 ({st with m:=m',tm:=tm',gh:=g,pre:=st0.pre}:Az T):=⟨hN.ext,hN.le,hgh (m',tm') (by simp),fun f hf=>hgh f (by simp [hf]),hN.ok.so,hN.ok.nd⟩
   refine⟨Az.put_spec n1 d hv,?_,by rw [B8]⟩
   rw [Az.put_toSt]
   have e1:st.toSt.gh=Bv m' tm'++g.flatMap (fun f=>Bv f.1 f.2):=by
    simp only [Az.toSt,hg,List.flatMap_cons]
   unfold St.back
   rw [e1, ←hm]
   have e2:(Bv m' tm').length =m':=Oo _ _
   have t1:(Bv m' tm'++g.flatMap (fun f=>Bv f.1 f.2)).take m'=Bv m' tm':=by
    conv=>lhs;arg 1;rw [←e2]
    exact List.take_left
   have t2:(Bv m' tm'++g.flatMap (fun f=>Bv f.1 f.2)).drop m'=g.flatMap (fun f=>Bv f.1 f.2):=by
    conv=>lhs;arg 1;rw [←e2]
    exact List.drop_left
   rw [t1,t2]
   rfl
  ·cases h
 ·cases h
def nj (P:Program) (st:Az T):ResultVar→M (DV T)
 | .tmp t=> .ret (st.get t)
 | .cell t Ty=>mZ P Ty [] st (st.get t)
def kr (P:Program) (st:Az T):List ResultVar→M (List (DV T))
 | []=> .ret []
 | x::xs=> .bnd (nj P st x) fun v=> .bnd (kr P st xs) fun vs=> .ret (v::vs)
def rl (P:Program) (st:Az T):List ResultVar→M (DV T)
 | [x]=>nj P st x
 | xs=> .bnd (kr P st xs) fun vs=> .ret (.tup vs)
section
variable {H:A2 T} {P:Program} {st:Az T}
theorem Xc (hw:BV H st) (x:ResultVar):Yl (nj P st x) (fun v=>v.ok H st.nx∧(N6 P st.toSt x).1∧(N6 P st.toSt x).2=v.toV):=by
 cases x with
 | tmp t=>exact Yl.ret ⟨Az.get_ok hw t,trivial,by simp only [N6];exact st.get_toSt t⟩
 | cell t Ty=>
   refine(fI (key:=[]) hw (fun _=>Az.get_ok hw t)).mono fun v hv=>?_
   obtain⟨a,b,c⟩:=hv rfl
   simp only [N6,st.get_toSt]
   exact⟨a,b,c⟩
theorem au (hw:BV H st): ∀ xs:List ResultVar,Yl (kr P st xs) (fun vs=>Dg H st.nx vs∧(DH P st.toSt xs).1∧(DH P st.toSt xs).2=Bx vs)
 | []=>Yl.ret ⟨by simp only [Dg],trivial,by simp only [DH,Bx]⟩
 | x::xs=>Yl.bnd (Xc hw x) fun v hv=>Yl.bnd (au hw xs) fun vs hvs=>Yl.ret (by
   obtain⟨a,b,c⟩:=hv
   obtain⟨a',b',c'⟩:=hvs
   simp only [Dg,DH,Bx,c,c']
   exact⟨⟨a,a'⟩,⟨b,b'⟩,trivial⟩)
theorem tS (hw:BV H st) (xs:List ResultVar):Yl (rl P st xs) (fun v=>v.ok H st.nx∧(Cz P st.toSt xs).1∧(Cz P st.toSt xs).2=v.toV):=by
 unfold rl
 split
 ·rename_i x
  exact Xc hw x
 ·rename_i hne
  refine Yl.bnd (au hw _) fun vs hvs=>Yl.ret ?_
  obtain⟨a,b,c⟩:=hvs
  have:Cz P st.toSt xs=((DH P st.toSt xs).1, .tup (DH P st.toSt xs).2):=by
   unfold Cz
   split
   ·rename_i x;exact(hne x rfl).elim
   ·rfl
  rw [this]
  simp only [DV.ok,DV.toV,c]
  exact⟨a,b,trivial⟩
end
def kt:Option (DC T)→Bool
 | some (.c .nils)=>true
 | _=>false
def Az.own (st:Az T) (i:AC) (j:Nat) (k:AC) (E:Nat):Option (Az T):=match st.new k (.row E [])with
 | some s=>match Qd s i with
   | some cs=>match kt cs[j]? with
     | true=>some (s.setX i (.box (cs.set j (.c (.osl k)))))
     | false=>none
   | none=>none
 | none=>none
theorem gf {o:Option (DC T)} (h:kt o=true):o=some (.c .nils):=by
 unfold kt at h
 split at h
 ·rfl
 ·cases h
theorem rm {H:A2 T} {st st':Az T} {i k:AC} {j E:Nat} (h:BV H st) (ho:st.own i j k E=some st'):(∃ H',Nx H st H' st')∧Wk st.toSt st'.toSt∧st'.pre=st.pre:=by
 unfold Az.own at ho
 split at ho
 ·rename_i s hs
  split at ho
  ·rename_i cs hb
   split at ho
   ·rename_i hn
    injection ho with ho;subst ho
    obtain⟨⟨H1,n1⟩,h2,h3⟩:=Az.new_spec h (x:= .row E []) trivial hs
    have hc:=gf hn
    have hok:(DX.box (cs.set j (.c (.osl k)))).ok :=Cl.2 fun c hm=>by
     rcases List.mem_or_eq_of_mem_set hm with q | q
     ·exact Cl.1 (Qe n1.ok hb) c q
     ·subst q;simp only [DC.ok]
    obtain⟨H2,n2⟩:=Az.setX_nx n1.ok i hok
    refine⟨⟨H2,n1.trans n2⟩,?_,h3⟩
    obtain⟨hl,_,e,e1,e2,e3⟩:=FC hb
    have hnil:s.toSt.nilAt i j=true:=by
     unfold St.nilAt
     rw [hl]
     have:(A1 cs)[j]? =some .nils :=by rw [CT,List.getElem?_map,hc];rfl
     simp only [this];rfl
    have hset:(s.setX i (.box (cs.set j (.c (.osl k))))).toSt =s.toSt.setCell i j (.osl k):=by
     have hF:=WV (t:=s.nx) (x:= .box (cs.set j (.c (.osl k)))) (F:=fun e=>if e.id==i&& !e.pu then⟨e.id,e.row,e.cs.set j (.osl k),false⟩else e) (id:=i)
      (fun a ha=>by simp [ha]) n1.ok.nd e1 e2 (by
       rw [DE.toE_box e3]
       simp only [e2,beq_self_eq_true,Bool.not_false,Bool.and_self,if_true,DE.toE,CT,List.map_set,DC.toC])
     simp only [Az.toSt,Az.setX,St.setCell,St.mk.injEq,and_true,true_and]
     exact hF.symm
    intro F a w G hR
    have q1:=hR.nilRow k E (T.sz E)
    rw [hset]
    have e5:(⟨k,0,DX.row E []⟩:DE T).toE =⟨k,some (E,T.sz E,0),[],true⟩:=rfl
    rw [e5]at h2
    exact⟨_,(q1.less h2).setCell hnil (by simp [Ep])⟩
   ·cases ho
  ·cases ho
 ·cases ho
def ku:List (AC×Nat×AC×Nat)→Az T→Option (Az T)
 | [],st=>some st
 | (i,j,k,E)::r,st=>match st.own i j k E with
   | some s=>ku r s
   | none=>none
theorem aw {H0:A2 T} {st0:Az T}: ∀ {l:List (AC×Nat×AC×Nat)} {st st':Az T} {H:A2 T},Nx H0 st0 H st→ku l st=some st'→(∃ H',Nx H0 st0 H' st')∧Wk st.toSt st'.toSt∧st'.pre=st.pre
 | [],st,st',H,hN,h=>by
   simp only [ku,Option.some.injEq]at h
   subst h
   exact⟨⟨H,hN⟩,Wk.less (Ch.refl _),rfl⟩
 | (i,j,k,E)::r,st,st',H,hN,h=>by
   simp only [ku]at h
   split at h
   ·rename_i s hs
    obtain⟨⟨H1,n1⟩,w1,p1⟩:=rm hN.ok hs
    obtain⟨a,b,c⟩:=aw (hN.trans n1) h
    exact⟨a,w1.trans b,c.trans p1⟩
   ·cases h
end Go.PL
namespace Go.PL
open Go Go.RowKit
variable {T:C1}
def jn {X R:Type} (J:X→Option R) (body:(X→Option R)→Option R):Option R:=body J
mutual
inductive Hn where
 | n
 | s (a b:Hn)
 | j (sh:Ix) (a b:Hn)
 | i (a b:Hn)
 | l (sh:Ix) (xs:List (Nat×Ix)) (b:Hn)
 | r (fz:List AC) (ow:List (AC×Nat×AC×Nat)) (il:Hl)
 | x
inductive Hl where
 | n
 | c (k:Nat) (h:Hn) (r:Hl)
 | j (k:Nat) (sh:Ix) (h:Hn) (r:Hl)
end
def rn:Hl→Nat→Option (Option Ix×Hn)
 | .n,_=>none
 | .c k h r,i=>match Nat.beq k i with
   | true=>some (none,h)
   | false=>rn r i
 | .j k sh h r,i=>match Nat.beq k i with
   | true=>some (some sh,h)
   | false=>rn r i
def tT (T:C1):=(R:Type)→Code→Hn→Az T→(Exit→Az T→Option R)→Option R
def ro (P:Program) (I:World→Prop) (rec:tT T):Prop:= ∀ (R:Type) (c:Code) (h:Hn) (st:Az T) (H:A2 T) (K:Exit→Az T→Option R) (r:R),BV H st→rec R c h st K=some r→
 ∀ (F:Fr) (Q:Exit→St→Prop),F.I=I→(∀ H' e st',Nx H st H' st'→K e st'=some r→Q e st'.toSt)→Aj P F c st.toSt Q
def VG:DV T→Option (FuncId×Bool×List (DC T))
 | .c (.c (.fn f))=>some (f,false,[])
 | .c (.clo b f cs)=>some (f,b,cs)
 | _=>none
def NJ (b:Bool) (caps vs:List (DV T)):List (DV T):=match b with
 | true=>caps++vs
 | false=>vs++caps
def oP:Option Nat→Nat
 | some d=>d
 | none=>0
def rq (P:Program) (fn:Func) (o:Oper) (st:Az T) (R:Type) (K:Az T→Option R) (e:Exit) (stc:Az T):Option R:=match e with
 | .normal =>rl P stc fn.results.toList R fun v=>match stc.back st o.dst v with
   | some s=>K s
   | none=>none
 | .ret =>rl P stc fn.results.toList R fun v=>match stc.back st o.dst v with
   | some s=>K s
   | none=>none
 | _=>none
def tU (P:Program) (rec:tT T) (o:Oper) (h:Hn) (st:Az T) (R:Type) (K:Az T→Option R):Option R:=
 match o.op,o.guard with
 | .call c,none=>match c.callee with
   | .value x=>match VG (st.ev x),II st [] c.args.toList with
     | some (f,b,cs),some vs=>match P.funcs[f]? with
       | some fn=>match fn.body with
         | some body=>match ent P f&&Nat.ble (NJ b (cs.map DV.c) vs).length fn.ntmps with
           | true=>rec R body h (st.enter (oP o.dst) (NJ b (cs.map DV.c) vs) fn.ntmps) (rq P fn o st R K)
           | false=>none
         | none=>none
       | none=>none
     | _,_=>none
   | _=>none
 | _,_=>none
def oQ {P:Program} {I:World→Prop} (Γ:List (CE T P I)) (rec:tT T) (ops:Array Oper) (il:Hl):List Oper→Nat→Az T→(R:Type)→(Az T→Option R)→Option R
 | [],_,st,_,K=>K st
 | o::rest,k,st,R,K=>match rn il k with
   | none=>yr Γ ops o st R fun st'=>oQ Γ rec ops il rest (k+1) st' R K
   | some (none,h)=>tU P rec o h st R fun st'=>oQ Γ rec ops il rest (k+1) st' R K
   | some (some sh,h)=>jn (fun v:RT T sh.ts=>match sh.inst st (Cn sh.ts v)with
    | some s=>oQ Γ rec ops il rest (k+1) s R K
    | none=>none) (fun j=>tU P rec o h st R fun b=>match sh.gen st b with
    | some v=>j v
    | none=>none)
section
variable {H:A2 T} {P:Program} {I:World→Prop} {Γ:List (CE T P I)} {rec:tT T} {st:Az T} {ops:Array Oper}
theorem Ur {n:Nat} {a b:List (DV T)} (h:Dg H n a) (k:Dg H n b):Dg H n (a++b):=HJ.2 fun v hv=>by
 rcases List.mem_append.1 hv with q | q
 ·exact HJ.1 h v q
 ·exact HJ.1 k v q
theorem Us (a b:List (DV T)):Bx (a++b)=Bx a++Bx b:=by simp [Mf]
theorem ax (cs:List (DC T)):Bx (cs.map DV.c)=(A1 cs).map V.c:=by
 simp only [Mf,CT,List.map_map]
 exact List.map_congr_left fun c _=>by simp only [Function.comp,DV.toV]
theorem nk (hrec:ro P I rec) (hw:BV H st) {o:Oper} {h:Hn} {R:Type} {K:Az T→Option R} {r:R} (hr:tU P rec o h st R K=some r)
 {PK:St→Prop} (hK: ∀ H' st',Nx H st H' st'→st'.pre=st.pre→K st'=some r→PK st'.toSt):o.guard=none∧Yp P I o st.toSt PK:=by
 unfold tU at hr
 split at hr
 ·rename_i c hop hgd
  refine⟨hgd,?_⟩
  split at hr
  ·rename_i x hcal
   split at hr
   ·rename_i f b cs vs hf hvs
    split at hr
    ·rename_i fn hfn
     split at hr
     ·rename_i body hbody
      split at hr
      ·rename_i hm
       simp only [Bool.and_eq_true,Nat.ble_eq]at hm
       obtain⟨hent,hlen⟩:=hm
       obtain⟨a1,a2,a3⟩:=C6 (key:=[]) hw (Sw _ _) rfl hvs
       change (st.toSt.args true c.args.toList).1 at a2
       change (st.toSt.args true c.args.toList).2=Bx vs at a3
       have hev:=Az.ev_ok hw x
       have hevt:=st.ev_toSt x
       have hcs:Ci cs:=by
        unfold VG at hf
        split at hf
        ·simp only [Option.some.injEq,Prod.mk.injEq]at hf
         obtain⟨rfl,rfl,rfl⟩:=hf
         simp [Ci]
        ·rename_i b' f' cs' he
         simp only [Option.some.injEq,Prod.mk.injEq]at hf
         obtain⟨rfl,rfl,rfl⟩:=hf
         rw [he]at hev
         simpa only [DV.ok,DC.ok] using hev
        ·cases hf
       have hcaps:Dg H st.nx (cs.map DV.c):=HJ.2 fun v hv=>by
        obtain⟨d,h1,rfl⟩:=List.mem_map.1 hv
        simp only [DV.ok]
        exact Cl.1 hcs d h1
       have hargs:Dg H st.nx (NJ b (cs.map DV.c) vs):=by
        cases b
        ·exact Ur a1 hcaps
        ·exact Ur hcaps a1
       obtain⟨H1,n1⟩:=rk hw (oP o.dst) fn.ntmps hargs
       have hst:=kq (st:=st) (k:=oP o.dst) hlen
       have hm:st.toSt.tm.length=st.m:=Oo _ _
       have main: ∀ w0 av old gv,Aj P ⟨w0,av,old,I,gv⟩ body (st.toSt.enter (oP o.dst) (Bx (NJ b (cs.map DV.c) vs)) fn.ntmps) (pP P fn.results.toList st.toSt.tm.length st.toSt.pre o.dst PK):=by
        intro w0 av old gv
        rw [←hst]
        refine hrec _ _ _ _ _ _ _ n1.ok hr ⟨w0,av,old,I,gv⟩ _ rfl fun H' e stc hN hE=>?_
        have fin:rl P stc fn.results.toList R (fun v=>match stc.back st o.dst v with | some s=>K s | none=>none)=some r→
         (Cz P stc.toSt fn.results.toList).1∧PK (stc.toSt.back st.toSt.tm.length st.toSt.pre o.dst (Cz P stc.toSt fn.results.toList).2):=by
         intro hE
         obtain⟨v,⟨v1,v2,v3⟩,hE⟩:=tS hN.ok fn.results.toList R _ r hE
         split at hE
         ·rename_i s hs
          obtain⟨⟨H2,b1⟩,b2,b3⟩:=oO (n1.trans hN) v1 hs
          refine⟨v2,?_⟩
          have:=hK H2 s b1 b3 hE
          rw [b2]at this
          rw [v3,hm]
          exact this
         ·cases hE
        cases e<;>simp only [pP]<;>first
         | exact fin hE
         | (simp [rq]at hE;done)
       cases b with
       | false=>
         have hcv:PZ st.toSt x=some (f,A1 cs):=by
          unfold PZ
          rw [hevt]
          unfold VG at hf
          split at hf
          ·rename_i f' he
           simp only [Option.some.injEq,Prod.mk.injEq]at hf
           obtain⟨rfl,_,rfl⟩:=hf
           rw [he];simp only [DV.toV,DC.toC,A1]
          ·rename_i b' f' cs' he
           simp only [Option.some.injEq,Prod.mk.injEq]at hf
           obtain⟨rfl,rfl,rfl⟩:=hf
           rw [he];simp only [DV.toV,DC.toC]
          ·cases hf
         refine Yp.inline (oP o.dst) hop hcal rfl (s:=(st.toSt.args true c.args.toList).1) (vs:=Bx vs) (by rw [←a3]) a2 hcv hent hfn hbody rfl (rs:=fn.results.toList) (by simp) ?_
         intro w0 av old gv
         have:=main w0 av old gv
         rw [NJ,Us,ax]at this
         exact this
       | true=>
         have hcv:st.toSt.ev x= .c (.bmv f (A1 cs)):=by
          rw [hevt]
          unfold VG at hf
          split at hf
          ·simp at hf
          ·rename_i b' f' cs' he
           simp only [Option.some.injEq,Prod.mk.injEq]at hf
           obtain⟨rfl,rfl,rfl⟩:=hf
           rw [he];simp only [DV.toV,DC.toC]
          ·cases hf
         refine Yp.inlineB (oP o.dst) hop hcal rfl (s:=(st.toSt.args true c.args.toList).1) (vs:=Bx vs) (by rw [←a3]) a2 hcv hent hfn hbody rfl (rs:=fn.results.toList) (by simp) ?_
         intro w0 av old gv
         have:=main w0 av old gv
         rw [NJ,Us,ax]at this
         exact this
      ·cases hr
     ·cases hr
    ·cases hr
   ·cases hr
  ·cases hr
 ·cases hr
theorem VH (hrec:ro P I rec) (il:Hl): ∀ (l:List Oper) (k:Nat) (st:Az T) (H:A2 T),BV H st→ ∀ (R:Type) (K:Az T→Option R) (r:R),oQ Γ rec ops il l k st R K=some r→
 ∀ PK:St→Prop,(∀ H' st',Nx H st H' st'→st'.pre=st.pre→K st'=some r→PK st'.toSt)→CF P I ops l st.toSt PK
 | [],k,st,H,hw,R,K,r,hr,PK,hK=>hK H st (Nx.refl hw) rfl hr
 | o::rest,k,st,H,hw,R,K,r,hr,PK,hK=>by
   simp only [oQ]at hr
   split at hr
   ·obtain⟨st',⟨⟨H1,n1⟩,p1,w1⟩,hr⟩:=rc hw o R _ r hr
    refine w1 _ ?_
    exact VH hrec il rest (k+1) st' H1 n1.ok R K r hr PK fun H' s n p q=>hK H' s (n1.trans n) (p.trans p1) q
   ·rename_i h _
    obtain⟨g1,g2⟩:=nk (PK:=fun s=>CF P I ops rest s PK) hrec hw hr fun H' s n p q=>VH hrec il rest (k+1) s H' n.ok R K r q PK fun H'' s' n' p' q'=>hK H'' s' (n.trans n') (p'.trans p) q'
    simp only [CF,mE,g1]
    exact .inl g2
   ·rename_i sh h _
    unfold jn at hr
    obtain⟨g1,g2⟩:=nk (PK:=fun s=> ∃ s',Wk s s'∧CF P I ops rest s' PK) hrec hw hr fun H' s n p q=>by
     split at q
     ·rename_i v hg
      dsimp only at q
      split at q
      ·rename_i s' hi
       obtain⟨H2,n2⟩:=Ix.inst_nx hw (ED sh.ts v) hi
       have hp:s'.pre=st.pre:=by
        unfold Ix.inst at hi
        split at hi
        ·rename_i s1 us h1
         split at hi
         ·rename_i s2 us2 h2
          injection hi with hi;subst hi
          obtain⟨⟨Ha,na⟩,nb,_,_,np,_⟩:=IL (sh.base_nx hw) (ED sh.ts v) h1
          obtain⟨_,_,_,mp,_⟩:=KA na nb h2
          rw [mp,np];rfl
         ·cases hi
        ·cases hi
       exact⟨s'.toSt,Ix.gen_ok hw n hg hi,VH hrec il rest (k+1) s' H2 n2.ok R K r q PK fun H'' s'' n' p' q'=>hK H'' s'' (n2.trans n') (p'.trans hp) q'⟩
      ·cases q
     ·cases q
    simp only [CF,mE,g1]
    refine .inl ?_
    intro F a w G Q hI hR
    exact Oper.wp_mono (fun _ _ ⟨_,G',⟨s',hwk,hp⟩,hR'⟩=>by
     obtain⟨G'',q⟩:=hwk _ _ _ _ hR'
     exact⟨s',G'',hp,q⟩) (g2 F a w G Q hI hR)
end
end Go.PL
namespace Go.PL
open Go Go.RowKit
variable {T:C1}
def ET (T:C1):List (Nat×Ix)→Type
 | []=>Empty
 | [x]=>RT T x.2.ts
 | x::y::r=>RT T x.2.ts⊕ET T (y::r)
def rr {α β:Type} (f:α→β):Option α→Option β
 | some x=>some (f x)
 | none=>none
def oR (st0 st':Az T) (k:Nat):(xs:List (Nat×Ix))→Option (ET T xs)
 | []=>none
 | [x]=>match Nat.beq x.1 k with
   | true=>x.2.gen st0 st'
   | false=>none
 | x::y::r=>match Nat.beq x.1 k with
   | true=>rr Sum.inl (x.2.gen st0 st')
   | false=>rr Sum.inr (oR st0 st' k (y::r))
def ay {R:Type} (st0:Az T) (K:Nat→Az T→Option R):(xs:List (Nat×Ix))→ET T xs→Option R
 | []=>fun o=>nomatch o
 | [x]=>fun v=>match x.2.inst st0 (Cn x.2.ts v)with
   | some s=>K x.1 s
   | none=>none
 | x::y::r=>Sum.elim (fun v=>match x.2.inst st0 (Cn x.2.ts v)with
   | some s=>K x.1 s
   | none=>none) (ay st0 K (y::r))
def kw:Nat→Exit
 | 0=> .ret
 | n+1=> .exit n
def NK:Exit→Option Nat
 | .ret =>some 0
 | .exit n=>some (n+1)
 | _=>none
theorem kx {e:Exit} {k:Nat} (h:NK e=some k):kw k=e:=by
 cases e<;>simp only [NK,Option.some.injEq]at h<;>first
  | (subst h;rfl)
  | (cases h;done)
theorem Sy {α β:Type} {f:α→β} {o:Option α} {y:β} (h:rr f o=some y): ∃ x,o=some x∧f x=y:=by
 cases o with
 | none=>cases h
 | some x=>injection h with h;exact⟨x,rfl,h⟩
theorem nl {H H':A2 T} {R:Type} {st0 st':Az T} {k:Nat} {K:Nat→Az T→Option R} {r:R} (h0:BV H st0) (hN:Nx H st0 H' st'): ∀ {xs:List (Nat×Ix)} {o:ET T xs},oR st0 st' k xs=some o→ay st0 K xs o=some r→
 ∃ s H2,Wk st'.toSt s.toSt∧Nx H st0 H2 s∧K k s=some r
 | [],o,h,_=>by cases h
 | [x],o,h,he=>by
   simp only [oR]at h
   split at h
   ·rename_i hb
    have hb:=Nat.eq_of_beq_eq_true hb
    subst hb
    simp only [ay]at he
    split at he
    ·rename_i s hi
     obtain⟨H2,n2⟩:=Ix.inst_nx h0 (ED _ _) hi
     exact⟨s,H2,Ix.gen_ok h0 hN h hi,n2,he⟩
    ·cases he
   ·cases h
 | x::y::r',o,h,he=>by
   simp only [oR]at h
   split at h
   ·rename_i hb
    have hb:=Nat.eq_of_beq_eq_true hb
    subst hb
    obtain⟨v,h1,rfl⟩:=Sy h
    simp only [ay,Sum.elim_inl]at he
    split at he
    ·rename_i s hi
     obtain⟨H2,n2⟩:=Ix.inst_nx h0 (ED _ _) hi
     exact⟨s,H2,Ix.gen_ok h0 hN h1 hi,n2,he⟩
    ·cases he
   ·obtain⟨v,h1,rfl⟩:=Sy h
    simp only [ay,Sum.elim_inr]at he
    exact nl h0 hN h1 he
theorem oS {σ ρ:Type} {B:σ→Option (σ⊕ρ)} {n:Nat} {s:σ} {o:ρ} (h:PL.iter B n s=some o): ∃ z,B s=some z:=by
 cases n with
 | zero=>cases h
 | succ n=>
   simp only [PL.iter]at h
   cases hb:B s with
   | some z=>exact⟨z,rfl⟩
   | none=>rw [hb]at h;cases h
section
variable {P:Program} {I:World→Prop}
def wh (Γ:List (CE T P I)) (rec:tT T) (ops:Array Oper) (dr:Bool) (fz:List AC) (ow:List (AC×Nat×AC×Nat)) (il:Hl) (st:Az T) (R:Type) (K:Az T→Option R):Option R:=
 match dr with
 | false=>oQ Γ rec ops il ops.toList 0 (Jh fz st) R fun s=>match ku ow s with
   | some s'=>K s'
   | none=>none
 | true=>match Region.lexB .any ops with
   | true=>rf Γ ops ops.toList (Jh fz st) R fun s=>match ku ow s with
     | some s'=>K s'
     | none=>none
   | false=>none
def wi:Hn→List AC×List (AC×Nat×AC×Nat)×Hl
 | .r fz ow il=>(fz,ow,il)
 | _=>([],[], .n)
def ru {R:Type} (N:Az T→Option R) (K:Exit→Az T→Option R) (e:Exit) (s:Az T):Option R:=match e with
 | .normal =>N s
 | e=>K e s
def rv {R:Type} (j:Nat) (K:Exit→Az T→Option R) (e:Exit) (s:Az T):Option R:=match e with
 | .exit i=>match Nat.beq i j with
   | true=>K .normal s
   | false=>K (.exit i) s
 | e=>K e s
def Oq {α:Type} (h:Hn) (o:Option α):Option α:=match h with
 | .x =>none
 | _=>o
theorem DO {α:Type} {h:Hn} {o:Option α} {x:α} (q:Oq h o=some x):o=some x:=by
 unfold Oq at q
 split at q
 ·cases q
 ·exact q
def JR (Γ:List (CE T P I)) (rec:tT T):Code→Hn→Az T→(R:Type)→(Exit→Az T→Option R)→Option R
 | .skip,h,st,_,K=>Oq h (K .normal st)
 | .ret,h,st,_,K=>Oq h (K .ret st)
 | .exit j,h,st,_,K=>Oq h (K (.exit j) st)
 | .label _,h,st,_,K=>Oq h (K .normal st)
 | .scope c,h,st,R,K=>Oq h (JR Γ rec c h st R fun e s=>match NK e with
   | some _=>K e s
   | none=>match e with
     | .normal =>K .normal s
     | _=>none)
 | .block j c,h,st,R,K=>Oq h (JR Γ rec c h st R (rv j K))
 | .cond c x y,h,st,R,K=>Oq h (match st.ev c with
   | .c (.k .bool b)=>if(show Bool from b)=true then JR Γ rec x h.a st R K else JR Γ rec y h.b st R K
   | _=>none)
 | .seq a b,h,st,R,K=>match h with
   | .j sh ha hb=>jn (fun v:RT T sh.ts=>match sh.inst st (Cn sh.ts v)with
    | some s=>JR Γ rec b hb s R K
    | none=>none) (fun j=>JR Γ rec a ha st R (ru (fun s=>match sh.gen st s with
      | some v=>j v
      | none=>none) K))
   | .x =>none
   | h=>JR Γ rec a h.a st R (ru (fun s=>JR Γ rec b h.b s R K) K)
 | .region _ ops dr,h,st,R,K=>Oq h (wh Γ rec ops dr (wi h).1 (wi h).2.1 (wi h).2.2 st R (K .normal))
 | .loop c,h,st,R,K=>match h with
   | .l sh xs hb=>match sh.gen st st with
     | some v0=>(iter (fun v:RT T sh.ts=>match sh.inst st (Cn sh.ts v)with
      | some s=>JR Γ rec c hb s (RT T sh.ts⊕ET T xs) fun e s'=>match e with
        | .normal =>match sh.gen st s' with
          | some v'=>match sh.inst st (Cn sh.ts v')with
            | some _=>some (.inl v')
            | none=>none
          | none=>none
        | e=>match NK e with
          | some k=>rr Sum.inr (oR st s' k xs)
          | none=>none
      | none=>none) FU v0).bind (ay st (fun k s=>K (kw k) s) xs)
     | none=>none
   | _=>none
 | _,_,_,_,_=>none
theorem Aj.wkQ {F:Fr} {c:Code} {st:St} {Q:Exit→St→Prop} (h:Aj P F c st (fun e s=> ∃ s',Wk s s'∧Q e s')):Aj P F c st Q:=fun a w G hR=>
 Code.wp_mono (fun _ _ _ ⟨_,G',⟨s',hwk,hq⟩,hR'⟩=>by
  obtain⟨G'',q⟩:=hwk _ _ _ _ hR'
  exact⟨s',G'',hq,q⟩) (h a w G hR)
theorem tV {Γ:List (CE T P I)} {rec:tT T} (hfol:P.follows .mixedOrders =true) (hrec:ro P I rec) {ops:Array Oper} {id:Nat} {dr:Bool} {fz:List AC} {ow:List (AC×Nat×AC×Nat)} {il:Hl} {st:Az T} {H:A2 T} (hw:BV H st) {R:Type} {K:Az T→Option R} {r:R}
 (hr:wh Γ rec ops dr fz ow il st R K=some r) {F:Fr} (hI:F.I=I) {Q:Exit→St→Prop} (hK: ∀ H' st',Nx H st H' st'→K st'=some r→Q .normal st'.toSt):Aj P F (.region id ops dr) st.toSt Q:=by
 obtain⟨⟨H1,n1⟩,w1⟩:=IM (l:=fz) (Nx.refl hw)
 refine Aj.wk w1 (Aj.wkQ ?_)
 have fin: ∀ H' s,Nx H1 (Jh fz st) H' s→(match ku ow s with | some s'=>K s' | none=>none)=some r→ ∃ s',Wk s.toSt s'∧Q .normal s':=by
  intro H' s n q
  split at q
  ·rename_i s' hs
   obtain⟨⟨H2,n2⟩,w2,_⟩:=aw (n1.trans n) hs
   exact⟨s'.toSt,w2,hK H2 s' n2 q⟩
  ·cases q
 unfold wh at hr
 split at hr
 ·refine Aj.region ?_
  rw [hI]
  exact VH hrec il _ 0 _ H1 n1.ok R _ r hr (fun s=> ∃ s',Wk s s'∧Q .normal s') fun H' s n _ q=>fin H' s n q
 ·split at hr
  ·rename_i hl
   refine Aj.regionQ hfol hl ?_
   rw [hI]
   obtain⟨s,⟨⟨H2,n2⟩,_,w2⟩,hr⟩:=f5 (Γ:=Γ) (ops:=ops) ops.toList (Jh fz st) H1 n1.ok R _ r hr
   exact w2 _ (fin H2 s n2 hr)
  ·cases hr
theorem EX {Γ:List (CE T P I)} {rec:tT T} (hfol:P.follows .mixedOrders =true) (hrec:ro P I rec): ∀ (c:Code) (h:Hn) (st:Az T) (H:A2 T) (R:Type) (K:Exit→Az T→Option R) (r:R),BV H st→JR Γ rec c h st R K=some r→
 ∀ (F:Fr) (Q:Exit→St→Prop),F.I=I→(∀ H' e st',Nx H st H' st'→K e st'=some r→Q e st'.toSt)→Aj P F c st.toSt Q
 | .skip,h,st,H,R,K,r,hw,hr,F,Q,hI,hK=>Aj.skip (hK H _ st (Nx.refl hw) (DO hr))
 | .ret,h,st,H,R,K,r,hw,hr,F,Q,hI,hK=>Aj.ret (hK H _ st (Nx.refl hw) (DO hr))
 | .exit j,h,st,H,R,K,r,hw,hr,F,Q,hI,hK=>Aj.exit (hK H _ st (Nx.refl hw) (DO hr))
 | .label j,h,st,H,R,K,r,hw,hr,F,Q,hI,hK=>Aj.label (hK H _ st (Nx.refl hw) (DO hr))
 | .scope c,h,st,H,R,K,r,hw,hr,F,Q,hI,hK=>by
   refine Aj.scope (EX hfol hrec c h st H R _ r hw (DO hr) F _ hI fun H' e st' n q=>?_)
   cases e<;>simp only [NK]at q<;>first
    | (cases q;done)
    | exact hK H' _ st' n q
 | .block j c,h,st,H,R,K,r,hw,hr,F,Q,hI,hK=>by
   refine Aj.block (EX hfol hrec c h st H R _ r hw (DO hr) F _ hI fun H' e st' n q=>?_)
   cases e with
   | exit i=>
     simp only [rv]at q
     simp only [By]
     split at q
     ·rename_i hb
      rw [if_pos (Nat.eq_of_beq_eq_true hb)]
      exact hK H' _ st' n q
     ·rename_i hb
      rw [if_neg (fun e=>by subst e;simp at hb)]
      exact hK H' _ st' n q
   | _=>exact hK H' _ st' n q
 | .cond c x y,h,st,H,R,K,r,hw,hr,F,Q,hI,hK=>by
   simp only [JR]at hr
   replace hr:=DO hr
   split at hr
   ·rename_i b hb
    have hev:=st.ev_toSt c
    rw [hb]at hev
    refine Aj.cond (b:=b) hev (fun e=>?_) (fun e=>?_)
    ·rw [if_pos e]at hr
     exact EX hfol hrec x h.a st H R K r hw hr F Q hI hK
    ·rw [if_neg (by rw [show (show Bool from b)=b from rfl,e];simp)]at hr
     exact EX hfol hrec y h.b st H R K r hw hr F Q hI hK
   ·cases hr
 | .region id ops dr,h,st,H,R,K,r,hw,hr,F,Q,hI,hK=>by
   simp only [JR]at hr
   exact tV hfol hrec hw (DO hr) hI fun H' st' n q=>hK H' _ st' n q
 | .seq a b,h,st,H,R,K,r,hw,hr,F,Q,hI,hK=>by
   simp only [JR]at hr
   split at hr
   ·rename_i sh ha hb
    unfold jn at hr
    refine Sj (X:=RT T sh.ts) (fun v=>match sh.inst st (Cn sh.ts v)with | some s=>s.toSt | none=>st.toSt) (fun v=> ∃ s,sh.inst st (Cn sh.ts v)=some s∧JR Γ rec b hb s R K=some r) ?_ ?_
    ·refine EX hfol hrec a ha st H R _ r hw hr F _ hI fun H' e st' n q=>?_
     cases e with
     | normal=>
       simp only [ru]at q
       simp only [BM]
       split at q
       ·rename_i v hg
        split at q
        ·rename_i s hi
         exact⟨v,⟨s,hi,q⟩,by rw [hi];exact Ix.gen_ok hw n hg hi⟩
        ·cases q
       ·cases q
     | _=>exact hK H' _ st' n q
    ·rintro v ⟨s,hi,q⟩
     rw [hi]
     obtain⟨H2,n2⟩:=Ix.inst_nx hw (ED _ _) hi
     exact EX hfol hrec b hb s H2 R K r n2.ok q F Q hI fun H' e st' n' q'=>hK H' e st' (n2.trans n') q'
   ·cases hr
   ·refine Aj.seq (EX hfol hrec a _ st H R _ r hw hr F _ hI fun H' e st' n q=>?_)
    cases e with
    | normal=>exact EX hfol hrec b _ st' H' R K r n.ok q F Q hI fun H'' e st'' n' q'=>hK H'' e st'' (n.trans n') q'
    | _=>exact hK H' _ st' n q
 | .loop c,h,st,H,R,K,r,hw,hr,F,Q,hI,hK=>by
   simp only [JR]at hr
   split at hr
   ·rename_i sh xs hb
    split at hr
    ·rename_i v0 hg0
     obtain⟨o,hi,hx⟩:=bS hr
     have hinst: ∃ s,sh.inst st (Cn sh.ts v0)=some s:=by
      obtain⟨z,hz⟩:=oS hi
      split at hz
      ·rename_i s hs;exact⟨s,hs⟩
      ·cases hz
     obtain⟨s0,hs0⟩:=hinst
     refine It (fun v=>match sh.inst st (Cn sh.ts v)with | some s=>s.toSt | none=>st.toSt) hi ?_ fun v z hz ho=>?_
     ·rw [hs0]
      exact Ix.gen_ok hw (Nx.refl hw) hg0 hs0
     ·split at hz
      ·rename_i s hs
       obtain⟨H2,n2⟩:=Ix.inst_nx hw (ED _ _) hs
       have exits: ∀ (H':A2 T) (e:Exit) (st':Az T) (k:Nat),Nx H2 s H' st'→NK e=some k→rr Sum.inr (oR st st' k xs)=some z→ ∃ s'',Wk st'.toSt s''∧Q e s'':=by
        intro H' e st' k n he q
        obtain⟨o',h1,h2⟩:=Sy q
        have:=ho o' h2.symm
        subst this
        obtain⟨s'',H3,w3,n3,k3⟩:=nl (K:=fun k s=>K (kw k) s) hw (n2.trans n) h1 hx
        rw [kx he]at k3
        exact⟨s''.toSt,w3,hK H3 e s'' n3 k3⟩
       have main:=EX hfol hrec c hb s H2 _ _ z n2.ok hz F (fun e s'=>match e with
        | .normal => ∃ v',z= .inl v'∧Wk s' (match sh.inst st (Cn sh.ts v')with | some s=>s.toSt | none=>st.toSt)
        | e=> ∃ s'',Wk s' s''∧Q e s'') hI fun H' e st' n q=>by
          cases e with
          | normal=>
            simp only at q
            split at q
            ·rename_i v' hg
             split at q
             ·rename_i s1 hs1
              injection q with q
              refine⟨v',q.symm,?_⟩
              rw [hs1]
              exact Ix.gen_ok hw (n2.trans n) hg hs1
             ·cases q
            ·cases q
          | ret=>exact exits H' _ st' _ n rfl q
          | exit i=>exact exits H' _ st' _ n rfl q
          | goto l=>cases q
          | panic ch=>cases q
          | outgrown=>cases q
       refine Aj.wkQ (main.mono fun e s' q=>?_)
       cases e with
       | normal=>exact⟨s',Wk.less (Ch.refl _),q⟩
       | _=>exact q
      ·cases hz
    ·cases hr
   ·cases hr
 | .rangeFunc ..,h,st,H,R,K,r,hw,hr,F,Q,hI,hK=>by simp only [JR]at hr;cases hr
 | .goto _,h,st,H,R,K,r,hw,hr,F,Q,hI,hK=>by simp only [JR]at hr;cases hr
 | .refuse _,h,st,H,R,K,r,hw,hr,F,Q,hI,hK=>by simp only [JR]at hr;cases hr
end
end Go.PL
namespace Go.PL
open Go Go.RowKit
variable {T:C1}
def Or:(ts:List VT)→XS T ts→List (DV T)
 | [],_=>[]
 | t::ts,x=>Lt t x.1::Or ts x.2
theorem az: ∀ (ts:List VT) (x:XS T ts),Bx (Or ts x)=GT ts x
 | [],_=>by simp only [Or,Bx,GT]
 | t::ts,x=>by simp only [Or,Bx,GT,NG,az ts]
theorem gg {H:A2 T} {n:Nat}: ∀ (ts:List VT) (x:XS T ts),Dg H n (Or ts x)
 | [],_=>by simp only [Or,Dg]
 | t::ts,x=>by simp only [Or,Dg,Qm,gg ts,and_self]
def cD (args:List (DV T)) (n:Nat):Az T:=EW 0 args ⟨n,[],[],[],[],0⟩
theorem oT {args:List (DV T)} {n:Nat} (ha: ∀ H:A2 T,Dg H 0 args): ∃ H,BV H (cD args n):=by
 let H0:A2 T:=⟨fun _=> .u,fun _=>⟨[],0, .box []⟩⟩
 have h0:BV H0 (⟨n,[],[],[],[],0⟩:Az T):=⟨fun _ _ _ hm=>by simp at hm,fun _ hm=>by simp at hm,fun _ hm=>by simp at hm,by simp⟩
 obtain⟨H,hN⟩:=Pn (i:=0) (Nx.refl h0) (ha H0)
 exact⟨H,hN.ok⟩
theorem gl {args:List (DV T)} {n:Nat} (hl:args.length≤n):(cD args n).toSt =St.start (Bx args) n:=by
 obtain⟨a,b,c,d⟩:=KB args 0 (⟨n,[],[],[],[],0⟩:Az T)
 unfold cD
 simp only [Az.toSt,a,b,c,d,St.start,List.map_nil,List.flatMap_nil]
 rw [Xb hl]
 intro j
 rw [Po]
 simp only [Nat.zero_le,true_and,Nat.zero_add,Nat.sub_zero]
 rfl
section
variable {H:A2 T} {P:Program} {I:World→Prop} {st:Az T}
def wj (P:Program) (st:Az T) (t:VT) (x:ResultVar):M (HR T t):= .bnd (nj P st x) fun v=>match ct st v with
 | some w=> .sm (qZ t w)
 | none=> .no
def aA (P:Program) (st:Az T):(ts:List VT)→List ResultVar→M (RT T ts)
 | [],[]=> .ret ()
 | [t],[x]=>wj P st t x
 | t::u::ts,x::xs=> .bnd (wj P st t x) fun a=> .bnd (aA P st (u::ts) xs) fun b=> .ret (a,b)
 | _,_=> .no
theorem oU (x:ResultVar) (s:St):PY P s x=((N6 P s x).1,BO s (N6 P s x).2):=by cases x<;>rfl
theorem nm (hw:BV H st) (t:VT) (x:ResultVar):Yl (wj P st t x) (fun r=>(PY P st.toSt x).1∧(PY P st.toSt x).2=IJ t r):=
 Yl.bnd (Xc hw x) fun v hv=>by
  obtain⟨a,b,c⟩:=hv
  split
  ·rename_i w hs
   refine Yl.sm fun r hr=>?_
   rw [oU]
   exact⟨b,by simp only;rw [c,Un hs,WY hr]⟩
  ·exact Yl.no
theorem gm (hw:BV H st): ∀ (ts:List VT) (xs:List ResultVar),Yl (aA P st ts xs) (fun r=>(EK P st.toSt xs).1∧(EK P st.toSt xs).2=DM ts r∧xs.length=ts.length)
 | [],[]=>Yl.ret ⟨trivial,by simp only [EK,DM],rfl⟩
 | [t],[x]=>(nm hw t x).mono fun r h=>⟨⟨h.1,trivial⟩,congrArg (fun z=>[z]) h.2,rfl⟩
 | t::u::ts,x::xs=>Yl.bnd (nm hw t x) fun a ha=>Yl.bnd (gm hw (u::ts) xs) fun b hb=>Yl.ret (by
   simp only [EK,DM,ha.2,hb.2.1]
   exact⟨⟨ha.1,hb.1⟩,trivial,by simpa using hb.2.2⟩)
 | [],_::_=>Yl.no
 | [_],[]=>Yl.no
 | [_],_::_::_=>Yl.no
 | _::_::_,[]=>Yl.no
theorem wl (hw:BV H st) {ts:List VT} {xs:List ResultVar}:Yl (aA P st ts xs) (fun r=>(C0 P st.toSt xs).1∧(C0 P st.toSt xs).2=Jg ts r):=
 (gm hw ts xs).mono fun r h=>by
  obtain⟨h1,h2,h3⟩:=h
  match ts,xs,r,h1,h2,h3 with
  | [],[],r,h1,h2,_=>exact⟨h1,by simp only [C0,Jg];rw [h2];simp only [DM]⟩
  | [t],[x],r,h1,h2,_=>
    simp only [EK]at h1 h2
    refine⟨h1.1,?_⟩
    have:[(PY P st.toSt x).2]=[IJ t r]:=h2
    injection this
  | t::u::ts,x::y::xs,r,h1,h2,_=>exact⟨h1,by simp only [C0,Jg];rw [h2]⟩
  | [],_::_,_,_,_,h3=>simp at h3
  | [_],[],_,_,_,h3=>simp at h3
  | [_],_::_::_,_,_,_,h3=>simp at h3
  | _::_::_,[],_,_,_,h3=>simp at h3
  | _::_::_,[_],_,_,_,h3=>simp at h3
theorem Ut: ∀ (ts:List VT) (x:RT T ts),Cf (DM ts x)=true
 | [],_=>by simp only [DM,Cf]
 | [t],x=>by simp only [DM,Cf,Bool.and_true];exact Ky t x
 | t::u::ts,x=>by simp only [DM,Cf,Ky,Ut (u::ts),Bool.and_self]
theorem oV: ∀ (ts:List VT) (x:RT T ts),(Jg ts x).pure =true
 | [],_=>by simp only [Jg,V.pure,Cf]
 | [t],x=>Ky t x
 | t::u::ts,x=>by simp only [Jg,V.pure];exact Ut _ _
def tW (Γ:List (CE T P I)):Nat→tT T
 | 0=>fun _ _ _ _ _=>none
 | n+1=>fun R c h st K=>JR Γ (tW Γ n) c h st R K
theorem nq {Γ:List (CE T P I)} (hfol:P.follows .mixedOrders =true): ∀ n,ro P I (tW Γ n)
 | 0=>fun _ _ _ _ _ _ _ _ hr=>by simp [tW]at hr
 | n+1=>fun R c h st H K r hw hr F Q hI hK=>EX hfol (nq hfol n) c h st H R K r hw hr F Q hI hK
def xL (P:Program) (rs:List VT) (xs:List ResultVar) (e:Exit) (st:Az T):Option (RT T rs):=match e with
 | .normal =>aA P st rs xs _ some
 | .ret =>aA P st rs xs _ some
 | _=>none
def rx (Γ:List (CE T P I)) (n:Nat) (fn:Func) (body:Code) (h:Hn) (ps rs:List VT) (x:XS T ps):Option (RT T rs):=
 match Nat.ble (Or ps x).length fn.ntmps with
 | true=>JR Γ (tW Γ n) body h (cD (Or ps x) fn.ntmps) (RT T rs) (xL P rs fn.results.toList)
 | false=>none
theorem xM {Γ:List (CE T P I)} (hsta:OZ I) (hfol:P.follows .mixedOrders =true) {n:Nat} {f:FuncId} {fn:Func} {body:Code} (hf:P.funcs[f]? =some fn) (hb:fn.body=some body) (hent:PL.ent P f=true) {h:Hn} {ps rs:List VT} {x:XS T ps} {r:RT T rs}
 (hr:rx Γ n fn body h ps rs x=some r):AP P I f (GT ps x) (· =Jg rs r):=by
 unfold rx at hr
 split at hr
 ·rename_i hl
  obtain⟨H,hw⟩:=oT (args:=Or ps x) (n:=fn.ntmps) (fun H=>gg ps x)
  refine AP.of hsta hent hf hb fun F hI=>?_
  rw [←az, ←gl (by simpa using hl)]
  refine EX hfol (nq hfol n) body h _ H _ _ r hw hr F _ hI fun H' e st' n q=>?_
  have fin:aA P st' rs fn.results.toList _ some=some r→(C0 P st'.toSt fn.results.toList).1∧(C0 P st'.toSt fn.results.toList).2.pure =true∧(C0 P st'.toSt fn.results.toList).2=Jg rs r:=by
   intro q
   obtain⟨v,⟨h1,h2⟩,h3⟩:=wl n.ok _ _ r q
   injection h3 with h3
   subst h3
   exact⟨h1,by rw [h2];exact oV _ _,h2⟩
  cases e<;>simp only [xL,mF]at q ⊢ <;>first
   | exact fin q
   | (cases q;done)
 ·cases hr
def AI (Γ:List (CE T P I)) (hsta:OZ I) (hfol:P.follows .mixedOrders =true) (n:Nat) (f:FuncId) (fn:Func) (body:Code) (h:Hn) (ps rs:List VT) (run:XS T ps→Option (RT T rs)) (hf:P.funcs[f]? =some fn) (hb:fn.body=some body)
    (heq:run=rx Γ n fn body h ps rs) (hent:PL.ent P f=true:=by kernel_rfl):CE T P I:=⟨f,ps,rs,run,fun x r q=>xM (h:=h) hsta hfol hf hb hent (by rw [←heq];exact q)⟩
end
end Go.PL
namespace Go.PL
theorem Cx {a b:Prop} (h:a=b) (p:a):b:=h▸p
end Go.PL
namespace Go.PL
open Go Go.RowKit
structure Fu where
 den:Type
 inh:Inhabited den
 enc:den→List C
 ks:List Kd
def Fu.unit:Fu:=⟨Unit,⟨()⟩,fun _=>[],[]⟩
def Qo:List (Nat×Fu)→Nat→Fu
 | [],_=> .unit
 | (k,r)::l,E=>match Nat.beq k E with
   | true=>r
   | false=>Qo l E
structure Lu (R:Nat→Fu) where
 E:Nat
 un:(R E).den →DK (fun E=>(R E).den) (R E).ks
 bd:DK (fun E=>(R E).den) (R E).ks →(R E).den
 beq:(R E).den →(R E).den →Bool
 unmk: ∀ y,un (bd y)=y
 encok: ∀ x,Fw (fun E=>(R E).enc) (R E).ks (un x)=(R E).enc x
 beqok: ∀ x y,beq x y=BK ((R E).enc x) ((R E).enc y)
def gn {R:Nat→Fu}:List (Lu R)→(E:Nat)→Option {e:Lu R // e.E=E}
 | [],_=>none
 | e::l,E=>match Nat.decEq e.E E with
   | .isTrue h=>some ⟨e,h⟩
   | .isFalse _=>gn l E
theorem EE {R:Nat→Fu}: ∀ {L1:List (Lu R)} {L0:List (Nat×Fu)} {E:Nat},L1.map (·.E)=L0.map (·.1)→gn L1 E=none→Qo L0 E= .unit
 | [],[],_,_,_=>rfl
 | [],_::_,_,h,_=>by simp at h
 | _::_,[],_,h,_=>by simp at h
 | e::L1,(k,r)::L0,E,h,hf=>by
   simp only [List.map_cons,List.cons.injEq]at h
   unfold gn at hf
   split at hf
   ·cases hf
   ·rename_i hne _
    have:Nat.beq k E=false:=by
     cases hb:Nat.beq k E with
     | false=>rfl
     | true=>exact absurd (h.1.trans (Nat.eq_of_beq_eq_true hb)) hne
    simp only [Qo,this]
    exact EE h.2 hf
inductive TSel (R:Nat→Fu) (E:Nat) where
 | some (e:Lu R) (h:e.E=E)
 | none (h:R E=Fu.unit)
def oW {R:Nat→Fu} (L1:List (Lu R)) (hn: ∀ E,gn L1 E=none→R E= .unit) (E:Nat):TSel R E:=match h:gn L1 E with
 | some e=> .some e.1 e.2
 | none=> .none (hn E h)
section
variable {R:Nat→Fu} {E:Nat}
def TSel.un:TSel R E→(R E).den →DK (fun E=>(R E).den) (R E).ks
 | .some e h=>h▸e.un
 | .none h=>fun _=>h▸(():DK (fun E=>(R E).den) Fu.unit.ks)
def TSel.bd:TSel R E→DK (fun E=>(R E).den) (R E).ks →(R E).den
 | .some e h=>h▸e.bd
 | .none h=>fun _=>h▸(():Fu.unit.den)
def TSel.beq:TSel R E→(R E).den →(R E).den →Bool
 | .some e h=>h▸e.beq
 | .none _=>fun _ _=>true
theorem TSel.unmk (s:TSel R E) (y:DK (fun E=>(R E).den) (R E).ks):s.un (s.bd y)=y:=by
 cases s with
 | some e h=>cases h;exact e.unmk y
 | none h=>
   show h▸(():DK (fun E=>(R E).den) Fu.unit.ks)=y
   have: ∀ (D:Nat→Type) (r:Fu) (h:r=Fu.unit) (y:DK D r.ks),h▸(():DK D Fu.unit.ks)=y:=by
    intro D r h y
    subst h
    rfl
   exact this _ _ h y
theorem TSel.encok (s:TSel R E) (x:(R E).den):Fw (fun E=>(R E).enc) (R E).ks (s.un x)=(R E).enc x:=by
 cases s with
 | some e h=>cases h;exact e.encok x
 | none h=>
   have: ∀ (r:Fu) (h:r=Fu.unit) (x:r.den) (z:DK (fun E=>(R E).den) r.ks),Fw (fun E=>(R E).enc) r.ks z=r.enc x:=by
    intro r h x z
    subst h
    rfl
   exact this _ h x _
theorem TSel.beqok (s:TSel R E) (x y:(R E).den):s.beq x y=BK ((R E).enc x) ((R E).enc y):=by
 cases s with
 | some e h=>cases h;exact e.beqok x y
 | none h=>
   show true=_
   have: ∀ (r:Fu) (h:r=Fu.unit) (x y:r.den),true=BK (r.enc x) (r.enc y):=by
    intro r h x y
    subst h
    rfl
   exact this _ h x y
end
def wm (L0:List (Nat×Fu)) (L1:List (Lu (Qo L0))) (hk:L1.map (·.E)=L0.map (·.1)):C1 where
 den E:=(Qo L0 E).den
 inh E:=(Qo L0 E).inh
 enc E:=(Qo L0 E).enc
 ks E:=(Qo L0 E).ks
 un E:=(oW L1 (fun _ h=>EE hk h) E).un
 bd E:=(oW L1 (fun _ h=>EE hk h) E).bd
 beq E:=(oW L1 (fun _ h=>EE hk h) E).beq
 unmk E:=(oW L1 (fun _ h=>EE hk h) E).unmk
 encok E:=(oW L1 (fun _ h=>EE hk h) E).encok
 beqok E:=(oW L1 (fun _ h=>EE hk h) E).beqok
end Go.PL
namespace Go.PL
open Go
theorem Pp {a b:Bool} (h:a=true) (k:b=true):(a&&b)=true:=by rw [h,k];rfl
theorem oX {P:Program} {f:FuncId} {fn:Func} {s:ChangeSpec} {c:OpenClaim} (h0:(c.wf (OpenSpec.ofChange s))=true) (h1:(laidOutB P)=true) (h2:(mapsRowed P)=true) (h3:(fn.params.all (P.readableRec ·))=true) (h4:(namedTie P c.named s.vars)=true) (h5:((c.stops==[]))=true) (h6:((P.stops==[]))=true) (h7:((c.knobs==[]))=true) (h8:((P.stopKnobs==[]))=true) (h9:((c.inPlace==P.inPlace f))=true) (h10:((c.unfollowed==P.unfollowed f))=true) (h11:((c.recurses==P.recurses f))=true) (h12:((c.named==P.varsNamed f))=true) (h13:((c.maps==(fn.params.toList++s.plain.varTypes P).any (P.mapsRec ·)))=true) (h14:((c.ifaces==(fn.params.toList++s.plain.varTypes P).any (P.ifacesRec ·)))=true) (h15:((c.mapsOut==P.mapsAmong fn.resultTypes.toList))=true) (h16:((c.loops==(fn.params.toList++s.plain.varTypes P).any (P.loopsFrom ·)))=true) (h17:((c.wideKeys==(fn.params.toList++s.plain.varTypes P++fn.resultTypes.toList).any (P.wideKeysFrom ·)))=true) (h18:(s.vars.all (P.varReadable ·))=true) (h19:(fn.resultTypes.all (fun t=>P.readableRec t&&decide (t<P.types.size)))=true) (h20:((c.ifacesOut==fn.resultTypes.toList.any (P.ifacesRec ·)))=true) (h21:((c.loopsOut==fn.resultTypes.toList.any (P.loopsFrom ·)))=true) (h22:((c.plainKeys==P.plainKeys))=true) (h23:(c.shortTexts.isNone)=true) (h24:(P.stopsHeard)=true) (h25:(P.mayEnter)=true) (h26:((c.lifted==P.liftsFinal))=true) (h27:((P.make==some c.make))=true) (h28:(c.domain.isEmpty&&(c.kinds==[]))=true) (h29:((c.pinned==c.pinnedBy))=true) (h30:((c.veiled==(fn.params.toList++s.plain.varTypes P++fn.resultTypes.toList).any (P.veiledRec ·)))=true) (h31:(c.veiledFits P fn.params.toList (fn.params.toList++s.plain.varTypes P++fn.resultTypes.toList))=true):joinedFacts P f fn s c=true:=by
 obtain⟨d1,d2⟩:=(Bool.and_eq_true _ _▸h28:_∧_)
 unfold joinedFacts
 rw [if_pos d1]
 exact(Pp (Pp (Pp (Pp (Pp (Pp (Pp (Pp (Pp (Pp (Pp (Pp (Pp (Pp (Pp (Pp (Pp (Pp (Pp (Pp (Pp (Pp (Pp (Pp (Pp (Pp (Pp (Pp (Pp (Pp (Pp h0 h1) h2) h3) h4) h5) h6) h7) h8) h9) h10) h11) h12) h13) h14) h15) h16) h17) h18) h19) h20) h21) h22) h23) h24) h25) h26) h27) d2) h29) h30) h31)
end Go.PL
