/- The pure logic: Ta, Tb, Tc, Td, Te, Tf, Tg, Th, Ti, PlYa, PlYb, PlYc, PlYd, PlYe, PlYf, PlYg. -/
import Derived.Test.YteginlijmbcopaaGreatDoorPlRtoPlQa
import Derived.OrdersHeld
open Bool (and_eq_true or_eq_true or_eq_false_iff not_eq_true')
open Nat (le_succ beq_eq blt_eq ble_eq add_mul one_mul zero_add add_assoc add_zero le_refl)
open List (mem_cons map_cons mem_map all_eq_true flatMap_cons all_cons mem_range take_append_drop mem_of_getElem? map_map nodup_cons getElem?_map ext_getElem? map_append any_eq_true mem_append all_nil)
open Option.some (injEq)
set_option linter.all false
namespace Go.PL
open Go Go.RowKit
inductive Kd where
 | int (k:IntKind)
 | bool
 | str
 | u_ (E:Nat)
def OW (den:Nat->Type):Kd->Type
 | .int _=>Int
 | .bool =>Bool
 | .str =>List UInt8
 | .u_ E=>List (den E)
def DK (den:Nat->Type):List Kd->Type
 | []=>Unit
 | k::ks=>OW den k×DK den ks
def Bk {den:Nat->Type} (enc: ∀ E,den E->List C):(k:Kd)->OW den k->C
 | .int k,n=> .int k n
 | .bool,b=> .bool b
 | .str,s=> .str s
 | .u_ E,l=> .sl l.length (List.flatMap (enc E) l)
def BD {den:Nat->Type} (enc: ∀ E,den E->List C):(ks:List Kd)->DK den ks->List C
 | [],_=>[]
 | k::ks,x=>Bk enc k x.1::BD enc ks x.2
structure Bl where
 den:Nat->Type
 inh: ∀ E,Inhabited (den E)
 enc: ∀ E,den E->List C
 ks:Nat->List Kd
 un: ∀ E,den E->DK den (ks E)
 bd: ∀ E,DK den (ks E)->den E
 beq: ∀ E,den E->den E->Bool
 afT: ∀ E y,un E (bd E y)=y
 abw: ∀ E x,BD enc (ks E) (un E x)=enc E x
 alw: ∀ E x y,beq E x y=BS (enc E x) (enc E y)
variable {T:Bl}
instance (E:Nat):Inhabited (T.den E):=T.inh E
def Bl.sz (T:Bl) (E:Nat):Nat:=(T.ks E).length
inductive DC (T:Bl) where
 | c (x:C)
 | k (kd:Kd) (x:OW T.den kd)
 | ip (E:Nat) (l:List (T.den E)) (i:Int) (x:T.den E) (off:Nat)
 | rp (id:Ah) (N:Nat) (i:Int) (off:Nat)
 | ap (id:Ah) (base n E:Nat) (i:Int) (off:Nat)
 | bs (id:Ah) (E:Nat) (o n:Int)
 | clo (b:Bool) (f:FuncId) (cs:List (DC T))
mutual
def DC.toC:DC T->C
 | .c x=>x
 | .k kd x=>Bk T.enc kd x
 | .ip E l i _ off=> .acm (l.flatMap (T.enc E)) (i.toNat*T.sz E+off)
 | .rp id N i off=> .ptr id (i.toNat*N+off)
 | .ap id base _ E i off=> .ptr id (base+i.toNat*T.sz E+off)
 | .bs id E o n=> .rsl id (T.sz E) o.toNat n.toNat
 | .clo true f cs=> .bmv f (Ax cs)
 | .clo false f cs=> .clo f (Ax cs)
def Ax:List (DC T)->List C
 | []=>[]
 | c::cs=>c.toC::Ax cs
end
theorem Cz: ∀ cs:List (DC T),Ax cs=cs.map DC.toC
 | []=>by simp [Ax]
 | c::cs=>by simp [Ax,Cz cs]
structure GL where
 t:Nat
 w:Bool
 b:Bool
def Bb:List GL->Bool
 | []=>true
 | [l]=>l.b
 | l::l'::ls=>Bb (l'::ls)&&l.b
theorem Jw: ∀ {k:List GL},Bb k=true↔ ∀ l∈k,l.b=true
 | []=>by simp [Bb]
 | [l]=>by simp [Bb]
 | l::l'::ls=>by simp only [Bb,and_eq_true,Jw (k:=l'::ls),mem_cons];grind
inductive DV (T:Bl) where
 | c (x:DC T)
 | agg (cs:List (DC T))
 | tup (vs:List (DV T))
 | g (key:List GL) (v:DV T)
 | u
mutual
def DV.toV:DV T->V
 | .c x=> .c x.toC
 | .agg cs=> .agg (Ax cs)
 | .tup vs=> .tup (Be vs)
 | .g key v=> .g (Bb key) v.toV
 | .u => .undef
def Be:List (DV T)->List V
 | []=>[]
 | v::vs=>v.toV::Be vs
end
theorem NM: ∀ vs:List (DV T),Be vs=vs.map DV.toV
 | []=>by simp [Be]
 | v::vs=>by simp [Be,NM vs]
def XR (T:Bl):(k:Kd)->OW T.den k->C
 | .u_ E,l=> .isl E (T.sz E) l.length (List.flatMap (T.enc E) l)
 | .int k,n=> .int k n
 | .bool,b=> .bool b
 | .str,s=> .str s
def BP (T:Bl):(ks:List Kd)->DK T.den ks->List C
 | [],_=>[]
 | k::ks,x=>XR T k x.1::BP T ks x.2
def Bl.abz (T:Bl) (E:Nat) (x:T.den E):List C:=BP T (T.ks E) (T.un E x)
def AH (T:Bl) (E:Nat) (n:Int):Int->List (T.den E)->List C
 | _,[]=>[]
 | k,x::l=>(if k<n then T.abz E x else T.enc E x)++AH T E n (k+1) l
def Bo (T:Bl) (E:Nat) (n:Int) (l:List (T.den E)):Option (Int×Nat)->List C
 | none=>AH T E n 0 l
 | some (i,off)=>(AH T E n 0 l).set (i.toNat*T.sz E+off) .any
inductive DX (T:Bl) where
 | box (cs:List (DC T))
 | row (E:Nat) (l:List (T.den E))
 | deep (E:Nat) (n:Int) (l:List (T.den E)) (h:Option (Int×Nat))
structure DE (T:Bl) where
 id:Ah
 tag:Nat
 x:DX T
def DE.toE (e:DE T):AB:=match e.x with
 | .box cs=>⟨e.id,none,Ax cs,false⟩
 | .row E l=>⟨e.id,some (E,T.sz E,l.length),l.flatMap (T.enc E),true⟩
 | .deep E n l h=>⟨e.id,some (E,T.sz E,l.length),Bo T E n l h,true⟩
theorem DE.toE_id (e:DE T):e.toE.id=e.id:=by grind [DE.toE]
abbrev Tm (T:Bl):=List (Nat×Nat×DV T)
def lk:Tm T->Nat->DV T
 | [],_=> .u
 | (s,_,v)::r,i=>match Nat.beq s i with
   | true=>v
   | false=>lk r i
def XT:Tm T->Nat->Nat
 | [],_=>0
 | (s,t,_)::r,i=>match Nat.beq s i with
   | true=>t+1
   | false=>XT r i
def AI (m:Nat) (tm:Tm T):List V:=(List.range m).map fun i=>(lk tm i).toV
structure Ag (T:Bl) where
 m:Nat
 tm:Tm T
 so:List (DE T)
 gh:List (Nat×Tm T)
 pre:Ah
 nx:Nat
def Ag.toSt (st:Ag T):St:=⟨AI st.m st.tm,st.so.map DE.toE,st.gh.flatMap fun f=>AI f.1 f.2,st.pre⟩
mutual
def DC.ok:DC T->Prop
 | .ip _ l i x _=>idx l i=some x
 | .bs _ _ o n=>0<=o/\0<=n
 | .clo _ _ cs=>B3 cs
 | _=>True
def B3:List (DC T)->Prop
 | []=>True
 | c::cs=>c.ok/\B3 cs
end
theorem C6: ∀ {cs:List (DC T)},B3 cs↔ ∀ c∈cs,c.ok
 | []=>by simp [B3]
 | c::cs=>by simp [B3,C6 (cs:=cs)]
structure Az (T:Bl) where
 v:Nat->DV T
 e:Nat->DE T
def gO:DV T->Bool
 | .c (.k .bool b)=>b
 | .g _ (.c (.k .bool b))=>b
 | _=>false
def GL.ok (H:Az T) (nx:Nat) (l:GL):Prop:=l.t<nx/\l.b=(gO (H.v l.t)==l.w)
mutual
def DV.ok (H:Az T) (nx:Nat):DV T->Prop
 | .c x=>x.ok
 | .agg cs=>B3 cs
 | .tup vs=>CL H nx vs
 | .g key v=>(∀ l∈key,l.ok H nx)/\(Bb key=true->v.ok H nx)
 | .u =>True
def CL (H:Az T) (nx:Nat):List (DV T)->Prop
 | []=>True
 | v::vs=>v.ok H nx/\CL H nx vs
end
theorem NN {H:Az T} {nx:Nat}: ∀ {vs:List (DV T)},CL H nx vs↔ ∀ v∈vs,v.ok H nx
 | []=>by simp [CL]
 | c::cs=>by simp [CL,NN (vs:=cs)]
def Qm (H:Az T) (nx:Nat) (tm:Tm T):Prop:= ∀ s t v,(s,t,v)∈tm->t<nx/\H.v t=v/\v.ok H nx
def DX.ok:DX T->Prop
 | .box cs=>B3 cs
 | .row _ _=>True
 | .deep .. =>True
structure AK (H:Az T) (st:Ag T):Prop where
 tm:Qm H st.nx st.tm
 gh: ∀ f∈st.gh,Qm H st.nx f.2
 so: ∀ e∈st.so,e.tag<st.nx/\H.e e.tag=e/\e.x.ok
 nd:(st.so.map DE.id).Nodup
def C4 (nx:Nat) (H H':Az T):Prop:= ∀ t,t<nx->H'.v t=H.v t/\H'.e t=H.e t
theorem C4.refl (nx:Nat) (H:Az T):C4 nx H H:=fun _ _=>⟨rfl,rfl⟩
theorem C4.trans {n m:Nat} {A B D:Az T} (h:C4 n A B) (k:C4 m B D) (hnm:n<=m):C4 n A D:=fun t ht=>
 ⟨(k t (by grind)).1.trans (h t ht).1,(k t (by grind)).2.trans (h t ht).2⟩
theorem GL.ads {H H':Az T} {n m:Nat} (he:C4 n H H') (hnm:n<=m) {l:GL} (h:l.ok H n):l.ok H' m:=
 ⟨Nat.lt_of_lt_of_le h.1 hnm,by rw [(he l.t h.1).1];exact h.2⟩
mutual
theorem DV.ads {H H':Az T} {n m:Nat} (he:C4 n H H') (hnm:n<=m): ∀ {v:DV T},v.ok H n->v.ok H' m
 | .c _,h=>by grind [DV.ok]
 | .agg _,h=>by grind [DV.ok]
 | .tup vs,h=>by simp only [DV.ok]at h ⊢;exact kW he hnm h
 | .g key v,h=>by simp only [DV.ok]at h ⊢;exact⟨fun l hl=>GL.ads he hnm (h.1 l hl),fun q=>DV.ads he hnm (h.2 q)⟩
 | .u,_=>by simp only [DV.ok]
theorem kW {H H':Az T} {n m:Nat} (he:C4 n H H') (hnm:n<=m): ∀ {vs:List (DV T)},CL H n vs->CL H' m vs
 | [],_=>by simp only [CL]
 | v::vs,h=>by simp only [CL]at h ⊢;exact⟨DV.ads he hnm h.1,kW he hnm h.2⟩
end
theorem BT {H H':Az T} {n m:Nat} (he:C4 n H H') (hnm:n<=m) {tm:Tm T} (h:Qm H n tm):Qm H' m tm:=fun s t v hm=>by obtain⟨h1,h2,h3⟩:=h s t v hm;exact⟨(by grind),by rw [(he t h1).1];exact h2,DV.ads he hnm h3⟩
theorem Ro (tm:Tm T) (i:Nat):lk tm i= .u /\XT tm i=0\/ ∃ t,(i,t,lk tm i)∈tm/\XT tm i=t+1:=by
 induction tm with
 | nil=>exact .inl ⟨rfl,rfl⟩
 | cons x r ih=>
   obtain⟨s,t,v⟩:=x;simp only [lk,XT];cases hb:Nat.beq s i with
   | true=>
     simp_all
   | false=>
     grind
theorem Agw {H:Az T} {nx:Nat} {tm:Tm T} (h:Qm H nx tm) (i:Nat):(lk tm i).ok H nx:=by
 rcases Ro tm i with ⟨h1,_⟩ | ⟨t,h1,_⟩
 ·grind [DV.ok]
 ·exact(h i t _ h1).2.2
theorem XU {H:Az T} {nx:Nat} {tm:Tm T} (h:Qm H nx tm) {i t:Nat} (ht:XT tm i=t+1):t<nx/\H.v t=lk tm i:=by
 rcases Ro tm i with ⟨_,h1⟩ | ⟨t',h1,h2⟩
 ·grind
 ·rw [h2]at ht;injection ht with ht;subst ht;obtain⟨a,b,_⟩:=h i t' _ h1;grind
def Vg:Value->Option (DC T)
 | .int k n=>some (.k (.int k) n)
 | .bool b=>some (.k .bool b)
 | .string s=>some (.k .str s.data.toList)
 | v=>match CJ v with
   | some c=>some (.c c)
   | none=>none
def Jx:List Value->Option (List (DC T))
 | []=>some []
 | v::vs=>match Vg v,Jx vs with
   | some c,some cs=>some (c::cs)
   | _,_=>none
def TJ:Value->DV T
 | .agg cs=>match Jx cs.toList with
   | some l=> .agg l
   | none=> .u
 | v=>match Vg v with
   | some c=> .c c
   | none=> .u
theorem XV {v:Value} {c:DC T} (h:Vg v=some c):CJ v=some c.toC/\c.ok:=by
 unfold Vg at h;split at h
 ·injection h with h;subst h;exact⟨rfl,by simp only [DC.ok]⟩
 ·injection h with h;subst h;exact⟨rfl,by simp only [DC.ok]⟩
 ·injection h with h;subst h;exact⟨rfl,by simp only [DC.ok]⟩
 grind [DC.toC,DC.ok]
theorem XW {v:Value} (h:Vg (T:=T) v=none):CJ v=none:=by unfold Vg at h;grind
theorem NO: ∀ {vs:List Value} {cs:List (DC T)},Jx vs=some cs->DZ vs=some (Ax cs)/\B3 cs
 | [],cs,h=>by grind [Jx,DZ,Ax,B3]
 | v::vs,cs,h=>by
   unfold Jx at h;split at h
   ·rename_i c cs' h1 h2;injection h with h;subst h;obtain⟨a,b⟩:=XV h1;obtain⟨a',b'⟩:=NO h2;simp [DZ,a,a',Ax,B3,b,b']
   ·cases h
theorem Vh: ∀ {vs:List Value},Jx (T:=T) vs=none->DZ vs=none
 | [],h=>by simp [Jx]at h
 | v::vs,h=>by
   unfold Jx at h;split at h
   ·cases h
   ·rename_i hne;unfold DZ;cases h1:Vg (T:=T) v with
    | none=>rw [XW h1]
    | some c=>
      cases h2:Jx (T:=T) vs with
      | none=>rw [Vh h2];cases CJ v<;>rfl
      | some cs=>exact(hne c cs h1 h2).elim
theorem Vi (v:Value) {H:Az T} {nx:Nat}:(TJ (T:=T) v).toV =Me v/\(TJ (T:=T) v).ok H nx:=by
 cases v
 case agg cs=>
  simp only [TJ,Me];cases h:Jx (T:=T) cs.toList with
  | some l=>
    obtain⟨a,b⟩:=NO h;simp_all [DV.toV,DV.ok]
  | none=>simp only [Vh h,DV.toV,DV.ok];grind
 all_goals
  simp only [TJ,Me];split
  ·rename_i c h;obtain⟨a,b⟩:=XV h;simp only [a,DV.toV,DV.ok];exact⟨trivial,b⟩
  ·rename_i h;simp only [XW h,DV.toV,DV.ok];exact(by grind)
def Ag.get (st:Ag T) (t:Nat):DV T:=match Nat.blt t st.m with
 | true=>lk st.tm t
 | false=> .u
def Ag.ev (st:Ag T):Operand->DV T
 | .tmp t=>st.get t
 | .const v=>TJ v
 | .func f=> .c (.c (.fn f))
 | .global _=> .u
theorem LD (m:Nat) (tm:Tm T) (t:Nat):(AI m tm).getD t .undef =(match Nat.blt t m with | true=>(lk tm t).toV | false=> .undef):=by
 unfold AI;rw [List.getD_eq_getElem?_getD,getElem?_map];cases hb:Nat.blt t m with
 | true=>
   simp_all
 | false=>
   have: ¬t<m:=by
    intro h;have h2:Nat.blt t m=true:=by simpa using h
    grind
   grind
theorem Ag.abF (st:Ag T) (t:Nat):st.toSt.get t=(st.get t).toV :=by show (AI st.m st.tm).getD t .undef =_;grind [LD,Ag.get,DV.toV]
theorem Ag.ahV {H:Az T} {st:Ag T} (h:AK H st) (t:Nat):(st.get t).ok H st.nx:=by
 unfold Ag.get;split
 ·exact Agw h.tm t
 ·simp only [DV.ok]
theorem Ag.acp (st:Ag T) (x:Operand):st.toSt.ev x=(st.ev x).toV :=by
 cases x with
 | tmp t=>exact st.abF t
 | const v=>exact(Vi (T:=T) v (H:=⟨fun _=> .u,fun _=>⟨[],0, .box []⟩⟩) (nx:=0)).1.symm
 | func f=>simp only [St.ev,Ag.ev,DV.toV,DC.toC]
 | global g=>simp only [St.ev,Ag.ev,DV.toV]
theorem Ag.apq {H:Az T} {st:Ag T} (h:AK H st) (x:Operand):(st.ev x).ok H st.nx:=by cases x<;>grind [Ag.ahV,Vi,Ag.ev,DV.ok,DC.ok]
def GL.eq (a b:GL):Bool:=Nat.beq a.t b.t&&(a.w==b.w)
def XX (l:GL):List GL->Bool
 | []=>false
 | a::r=>match GL.eq l a with
   | true=>true
   | false=>XX l r
def Qn:List GL->List GL->Bool
 | [],_=>true
 | l::ls,k=>match XX l k with
   | true=>Qn ls k
   | false=>false
def Fh (H:Az T) (nx:Nat) (k:List GL):Prop:= ∀ l∈k,l.ok H nx
theorem GL.aEh {H:Az T} {nx:Nat} {a b:GL} (h:a.eq b=true) (ha:a.ok H nx) (hb:b.ok H nx):a.b=b.b:=by simp only [GL.eq,and_eq_true,beq_eq,beq_iff_eq]at h;rw [ha.2,hb.2,h.1,h.2]
theorem kX {H:Az T} {nx:Nat} {l:GL}: ∀ {k:List GL},XX l k=true->l.ok H nx->Fh H nx k->Bb k=true->l.b=true
 | [],h,_,_,_=>by simp [XX]at h
 | a::r,h,hl,hk,hc=>by
   unfold XX at h;have hc':=Jw.1 hc;split at h
   ·rename_i he;rw [GL.aEh he hl (hk a (by simp))];exact hc' a (by simp)
   ·exact kX h hl (fun x hx=>hk x (by simp [hx])) (Jw.2 fun x hx=>hc' x (by simp [hx]))
theorem NP {H:Az T} {nx:Nat}: ∀ {ls k:List GL},Qn ls k=true->Fh H nx ls->Fh H nx k->Bb k=true->Bb ls=true
 | [],_,_,_,_,_=>rfl
 | l::ls,k,h,h1,h2,hc=>by
   unfold Qn at h;split at h
   ·rename_i hh;have a:=kX hh (h1 l (by simp)) h2 hc;have b:=NP h (fun x hx=>h1 x (by simp [hx])) h2 hc;refine Jw.2 fun x hx=>?_;rcases mem_cons.1 hx with rfl | hx
    all_goals grind [Jw]
   ·cases h
def Ag.arg (st:Ag T) (key:List GL) (x:Operand):Option (DV T):=match st.ev x with
 | .g k v=>match Qn k key with
   | true=>some v
   | false=>none
 | v=>some v
theorem Ag.afA {H:Az T} {st:Ag T} {key:List GL} {x:Operand} {v:DV T} (hw:AK H st) (hk:Fh H st.nx key) (h:st.arg key x=some v) (hc:Bb key=true):
 v.ok H st.nx/\(st.toSt.arg (Bb key) x).1/\(st.toSt.arg (Bb key) x).2=v.toV:=by
 have hev:=Ag.apq hw x;have e:=st.acp x;unfold Ag.arg at h;unfold St.arg;split at h
 ·rename_i k v' hx;split at h
  ·rename_i hs;injection h with h;subst h;rw [hx]at e hev;simp only [DV.ok]at hev;simp only [DV.toV]at e;rw [e];have:=NP hs hev.1 hk hc;grind
  ·cases h
 ·rename_i hne;injection h with h;subst h;refine⟨hev,?_⟩;rw [e];cases hv:st.ev x<;>simp_all [DV.toV]
def M (α:Type):=(R:Type)->(α->Option R)->Option R
namespace M
variable {α β:Type}
def ret (v:α):M α:=fun _ K=>K v
def no:M α:=fun _ _=>none
def sm (o:Option α):M α:=fun _ K=>match o with
 | some v=>K v
 | none=>none
def opt (o:Option β) (f:β->M α):M α:=fun R K=>o.bind fun x=>f x R K
def Z_ (m:M β) (f:β->M α):M α:=fun R K=>m R fun x=>f x R K
end M
def Yl {α:Type} (m:M α) (Φ:α->Prop):Prop:= ∀ (R:Type) (K:α->Option R) (r:R),m R K=some r-> ∃ v,Φ v/\K v=some r
namespace Yl
variable {α β:Type} {Φ:α->Prop}
theorem ret {v:α} (h:Φ v):Yl (M.ret v) Φ:=fun _ _ _ hr=>⟨v,h,hr⟩
theorem no:Yl (M.no) Φ:=fun _ _ _ hr=>by cases hr
theorem sm {o:Option α} (h: ∀ v,o=some v->Φ v):Yl (M.sm o) Φ:=fun R K r hr=>by unfold M.sm at hr;grind
theorem opt {o:Option β} {f:β->M α} (h: ∀ x,o=some x->Yl (f x) Φ):Yl (M.opt o f) Φ:=fun R K r hr=>by unfold M.opt at hr;obtain⟨x,h1,h2⟩:=bS hr;exact h x h1 R K r h2
theorem Z_ {m:M β} {f:β->M α} {Ψ:β->Prop} (hm:Yl m Ψ) (h: ∀ x,Ψ x->Yl (f x) Φ):Yl (M.Z_ m f) Φ:=fun R K r hr=>by obtain⟨v,h1,h2⟩:=hm R _ r hr;exact h v h1 R K r h2
theorem mono {m:M α} {Ψ:α->Prop} (hm:Yl m Ψ) (h: ∀ x,Ψ x->Φ x):Yl m Φ:=fun R K r hr=>by obtain⟨v,h1,h2⟩:=hm R K r hr;grind
end Yl
def gk {α:Type} [Inhabited α] (key:List GL) (o:Option α):Option α:=match key with
 | []=>o
 | l::ls=>gd (Bb (l::ls)) o
theorem Rq {α:Type} [Inhabited α] {key:List GL} {o:Option α} {x:α} (h:gk key o=some x) (hc:Bb key=true):o=some x:=by unfold gk at h;grind [wM]
end Go.PL
namespace Go.PL
open Go Go.RowKit
variable {T:Bl}
def Vj {den:Nat->Type} {T:Bl} (h: ∀ k,OW den k->DC T):(ks:List Kd)->DK den ks->List (DC T)
 | [],_=>[]
 | k::ks,x=>h k x.1::Vj h ks x.2
def gP (E:Nat) (x:T.den E):List (DC T):=Vj (fun k y=> .k k y) (T.ks E) (T.un E x)
theorem XY: ∀ (ks:List Kd) (y:DK T.den ks),Ax (Vj (T:=T) (fun k y=> .k k y) ks y)=BD T.enc ks y
 | [],_=>by simp [Vj,Ax,BD]
 | k::ks,y=>by simp only [Vj,Ax,BD,XY ks,DC.toC]
theorem Gj (E:Nat) (x:T.den E):Ax (gP E x)=T.enc E x:=by rw [gP,XY,T.abw]
theorem kY: ∀ (ks:List Kd) (y:DK T.den ks),B3 (Vj (T:=T) (fun k y=> .k k y) ks y)
 | [],_=>by simp [Vj,B3]
 | k::ks,y=>by simp only [Vj,B3,DC.ok];exact⟨trivial,kY ks y.2⟩
theorem Mp (E:Nat) (x:T.den E):B3 (gP E x):=kY _ _
theorem d8 {den:Nat->Type} {enc: ∀ E,den E->List C}: ∀ (ks:List Kd) (y:DK den ks),(BD enc ks y).length =ks.length
 | [],_=>rfl
 | k::ks,y=>by simp [BD,d8 ks]
theorem AV (E:Nat) (x:T.den E):(T.enc E x).length =T.sz E:=by rw [<-T.abw,d8];rfl
theorem XZ {den:Nat->Type} {enc: ∀ E,den E->List C} (k:Kd) (x:OW den k):(Bk enc k x).pure =true:=by cases k<;>rfl
theorem X0 {den:Nat->Type} {enc: ∀ E,den E->List C}: ∀ (ks:List Kd) (y:DK den ks),Au (BD enc ks y)=true
 | [],_=>rfl
 | k::ks,y=>by simp only [BD,Au,XZ,X0 ks,Bool.and_self]
theorem X1 (E:Nat) (x:T.den E):Au (T.enc E x)=true:=by rw [<-T.abw];exact X0 _ _
theorem ut (E:Nat) (l:List (T.den E)):Au (l.flatMap (T.enc E))=true:=Cg _ (X1 E) l
def HN (Tv:Bool):(k:Kd)->DC T->Option (OW T.den k)
 | .int k, .k (.int k') n=>match k'==k with
   | true=>some n
   | false=>none
 | .bool, .k .bool b=>some b
 | .str, .k .str s=>some s
 | .u_ E, .k (.u_ E') l=>match Nat.decEq E' E with
   | .isTrue h=>some (show List (T.den E)from h▸l)
   | .isFalse _=>none
 | .u_ E, .c (.sl 0 [])=>some ([]:List (T.den E))
 | .u_ E, .c .Tv =>match Tv with
   | true=>some ([]:List (T.den E))
   | false=>none
 | _,_=>none
def d9 (Tv:Bool):(ks:List Kd)->List (DC T)->Option (DK T.den ks)
 | [],[]=>some ()
 | k::ks,c::cs=>match HN Tv k c,d9 Tv ks cs with
   | some x,some y=>some (x,y)
   | _,_=>none
 | _,_=>none
def wj (Tv:Bool) (E:Nat) (cs:List (DC T)):Option (T.den E):=match d9 Tv (T.ks E) cs with
 | some y=>some (T.bd E y)
 | none=>none
theorem Cv {Tv:Bool} {k:Kd} {c:DC T} {x:OW T.den k} (h:HN Tv k c=some x):GO c.toC=Bk T.enc k x/\(Tv=false->c.toC=Bk T.enc k x):=by
 unfold HN at h;split at h
 ·split at h
  ·rename_i hb;have:=beq_iff_eq.1 hb;subst this;injection h with h;subst h;exact⟨rfl,fun _=>rfl⟩
  ·cases h
 ·injection h with h;subst h;exact⟨rfl,fun _=>rfl⟩
 ·injection h with h;subst h;exact⟨rfl,fun _=>rfl⟩
 ·split at h
  ·rename_i e _;subst e;injection h with h;subst h;exact⟨rfl,fun _=>rfl⟩
  ·cases h
 ·injection h with h;subst h;exact⟨rfl,fun _=>rfl⟩
 ·split at h
  ·injection h with h;subst h;exact⟨rfl,fun q=>by cases q⟩
  ·cases h
 ·cases h
theorem X2 {Tv:Bool}: ∀ {ks:List Kd} {cs:List (DC T)} {y:DK T.den ks},d9 Tv ks cs=some y->(Ax cs).map GO=BD T.enc ks y/\(Tv=false->Ax cs=BD T.enc ks y)
 | [],[],y,_=>by simp [Ax,BD]
 | [],_::_,_,h=>by simp [d9]at h
 | _::_,[],_,h=>by simp [d9]at h
 | k::ks,c::cs,y,h=>by
   unfold d9 at h;split at h
   ·rename_i x y' h1 h2;injection h with h;subst h;obtain⟨a1,a2⟩:=Cv h1;obtain⟨b1,b2⟩:=X2 h2;simp_all [Ax,BD]
   ·cases h
theorem HO {Tv:Bool} {E:Nat} {cs:List (DC T)} {x:T.den E} (h:wj Tv E cs=some x):(Ax cs).map GO=T.enc E x/\(Tv=false->Ax cs=T.enc E x):=by
 unfold wj at h;split at h
 ·rename_i y hy;injection h with h;subst h;rw [<-T.abw,T.afT];exact X2 hy
 ·cases h
def KV (E:Nat):Nat->List (DC T)->Option (List (T.den E))
 | 0,_=>some []
 | n+1,cs=>match wj false E (cs.take (T.sz E)),KV E n (cs.drop (T.sz E))with
   | some x,some l=>some (x::l)
   | _,_=>none
theorem I1 (n:Nat) (cs:List (DC T)):Ax (cs.take n)=(Ax cs).take n:=by simp [Cz,List.map_take]
theorem FT (n:Nat) (cs:List (DC T)):Ax (cs.drop n)=(Ax cs).drop n:=by simp [Cz,List.map_drop]
theorem CF (a b:List (DC T)):Ax (a++b)=Ax a++Ax b:=by simp [Cz]
theorem AP (a:List (DC T)):(Ax a).length =a.length:=by simp [Cz]
theorem Eh {E:Nat}: ∀ {n:Nat} {cs:List (DC T)} {l:List (T.den E)},KV E n cs=some l->l.length=n/\ ∃ r,Ax cs=l.flatMap (T.enc E)++r
 | 0,cs,l,h=>by simp [KV]at h;simp_all
 | n+1,cs,l,h=>by
   unfold KV at h;split at h
   ·rename_i x l' h1 h2;injection h with h;subst h;have a:=(HO h1).2 rfl;obtain⟨b1,r,b2⟩:=Eh h2;refine⟨by simp [b1],r,?_⟩;rw [I1]at a;rw [FT]at b2;rw [flatMap_cons,List.append_assoc, <-b2, <-a,take_append_drop]
   ·cases h
def C1 (ag:Bool) (off n:Nat) (cs:List (DC T)):DV T:=match ag with
 | true=> .agg ((cs.drop off).take n)
 | false=> .c (cs.getD off (.c .any))
theorem G9 (ag:Bool) (off n:Nat) (cs:List (DC T)):(C1 ag off n cs).toV =toV ag off n (Ax cs):=by
 cases ag
 ·simp only [C1,DV.toV,toV,Cz];rw [if_neg (by simp),List.getD_eq_getElem?_getD,List.getD_eq_getElem?_getD,getElem?_map];grind [DC.toC]
 grind [C1,DV.toV,toV,I1,FT]
theorem TK {cs:List (DC T)} (h:B3 cs) (n:Nat):B3 (cs.take n):=(by grind [C6])
theorem TL {cs:List (DC T)} (h:B3 cs) (n:Nat):B3 (cs.drop n):=(by grind [C6])
theorem C7 {a b:List (DC T)} (h:B3 a) (k:B3 b):B3 (a++b):=(by grind [C6])
theorem HP {H:Az T} {nx:Nat} (ag:Bool) (off n:Nat) {cs:List (DC T)} (h:B3 cs):(C1 ag off n cs).ok H nx:=by cases ag<;>grind [C1,DV.ok,DC.ok,C6]
def Bc:Ah->Ah->Bool
 | [],[]=>true
 | a::x,b::y=>match Nat.beq a b with
   | true=>Bc x y
   | false=>false
 | _,_=>false
theorem AQ: ∀ {a b:Ah},Bc a b=true↔a=b
 | [],[]=>by simp [Bc]
 | [],_::_=>by simp [Bc]
 | _::_,[]=>by simp [Bc]
 | a::x,b::y=>by
   unfold Bc;cases h:Nat.beq a b with
   | true=>
     have:=Nat.eq_of_beq_eq_true h;subst this;simp [AQ (a:=x) (b:=y)]
   | false=>
     have:a ≠ b:=fun e=>by subst e;simp at h
     simp [this]
def sd:List (DC T)->Bool
 | [.c (.mp _)]=>true
 | _=>false
def GP:List (DE T)->Ah->Option (DE T)
 | [],_=>none
 | e::r,id=>match Bc e.id id with
   | true=>some e
   | false=>GP r id
def DX.isM:DX T->Bool
 | .box cs=>sd cs
 | .row _ _=>false
 | .deep .. =>false
def Ag.look (st:Ag T) (id:Ah):Option (DX T):=match C2 id||E9 id with
 | true=>none
 | false=>match GP st.so id with
   | some e=>match e.x.isM with
     | true=>none
     | false=>some e.x
   | none=>none
theorem CM: ∀ {l:List (DE T)} {id:Ah} {e:DE T},GP l id=some e->e∈l/\e.id=id/\ ∀ p:AB->Bool,(∀ x:DE T,x.id ≠ id->p x.toE=false)->p e.toE=true->(l.map DE.toE).find? p=some e.toE
 | [],_,_,h=>by simp [GP]at h
 | x::r,id,e,h=>by
   unfold GP at h;split at h
   ·rename_i hb;injection h with h;subst h;exact⟨by simp,AQ.1 hb,fun p _ hp=>by simp [List.find?_cons,hp]⟩
   ·rename_i hb;obtain⟨h1,h2,h3⟩:=CM h;refine⟨by simp [h1],h2,fun p hp he=>?_⟩;have hne:x.id ≠ id:=fun q=>by rw [AQ.2 q]at hb;cases hb
    rw [map_cons,List.find?_cons,hp x hne];exact h3 p hp he
theorem ec {cs:List (DC T)} (h:sd cs=false) (hk: ∀ c∈cs, ∀ kv,c.toC= .mp kv->c= .c (.mp kv)):gf (Ax cs)=false:=by
 match cs with
 | []=>rfl
 | [c]=>
   simp only [Ax,gf];grind [sd]
 | a::b::r=>
   simp only [Ax];generalize a.toC=x;generalize b.toC=y;generalize Ax r=z;cases x<;>rfl
theorem wV (c:DC T) (kv:List (Int×Int)) (h:c.toC= .mp kv):c= .c (.mp kv):=by
 cases c with
 | c x=>grind [DC.toC]
 | k kd x=>cases kd<;>simp [DC.toC,Bk]at h
 | ip=>simp [DC.toC]at h
 | rp=>simp [DC.toC]at h
 | ap=>simp [DC.toC]at h
 | bs=>simp [DC.toC]at h
 | clo b f cs=>cases b<;>simp [DC.toC]at h
theorem Ag.ali {st:Ag T} {id:Ah} {x:DX T} (h:st.look id=some x): ∃ e,e∈st.so/\e.id=id/\e.x=x/\st.toSt.look id=some e.toE/\st.toSt.ac9 id=some e.toE/\E9 id=false/\C2 id=false:=by
 unfold Ag.look at h;split at h
 ·cases h
 ·rename_i hd;simp only [or_eq_false_iff]at hd;split at h
  ·rename_i e he;split at h
   ·cases h
   ·rename_i hm;injection h with h;subst h;obtain⟨h1,h2,h3⟩:=CM he;have hM:e.toE.isM=false:=by
     unfold DE.toE AB.isM;cases hx:e.x with
     | box cs=>
       rw [hx]at hm;exact ec hm (fun c _ kv q=>wV c kv q)
     | row E l=>rfl
     | deep E n l h=>rfl
    have hid:=e.toE_id;refine⟨e,h1,h2,rfl,?_,?_,hd.2,hd.1⟩
    ·refine h3 _ (fun y hy=>?_) ?_
     all_goals grind [DE.toE_id]
    ·refine h3 _ (fun y hy=>?_) ?_
     all_goals grind [DE.toE_id]
  ·cases h
theorem DE.toE_box {e:DE T} {cs:List (DC T)} (h:e.x= .box cs):e.toE=⟨e.id,none,Ax cs,false⟩:=by unfold DE.toE;rw [h]
theorem DE.toE_row {e:DE T} {E:Nat} {l:List (T.den E)} (h:e.x= .row E l):e.toE=⟨e.id,some (E,T.sz E,l.length),l.flatMap (T.enc E),true⟩:=by unfold DE.toE;rw [h]
def FB (ag:Bool) (off n N:Nat):Bool:=Nat.ble (off+n) N&&(ag||Nat.blt 0 n)
theorem CG {ag:Bool} {off n N:Nat} (h:FB ag off n N=true):off+n<=N/\(ag=true\/0<n):=by simp_all [FB]
def Jy (st:Ag T) (id:Ah):Option (List (DC T)):=match st.look id with
 | some (.box cs)=>some cs
 | _=>none
def DA (st:Ag T) (id:Ah):Option ((E:Nat)×List (T.den E)):=match st.look id with
 | some (.row E l)=>some ⟨E,l⟩
 | _=>none
theorem Hb {st:Ag T} {id:Ah} {cs:List (DC T)} (h:Jy st id=some cs):st.toSt.look id=some ⟨id,none,Ax cs,false⟩/\st.toSt.ac9 id=some ⟨id,none,Ax cs,false⟩/\ ∃ e∈st.so,e.id=id/\e.x= .box cs:=by
 unfold Jy at h;split at h
 ·rename_i cs' hl;injection h with h;subst h;obtain⟨e,h1,h2,h3,h4,h5,_⟩:=Ag.ali hl;grind [DE.toE_box]
 ·cases h
theorem BK {st:Ag T} {id:Ah} {E:Nat} {l:List (T.den E)} (h:DA st id=some ⟨E,l⟩):st.toSt.look id=some ⟨id,some (E,T.sz E,l.length),l.flatMap (T.enc E),true⟩/\st.toSt.ac9 id=some ⟨id,some (E,T.sz E,l.length),l.flatMap (T.enc E),true⟩/\ ∃ e∈st.so,e.id=id/\e.x= .row E l:=by
 unfold DA at h;split at h
 ·rename_i E' l' hl;injection h with h;injection h with h1 h2;subst h1;have h2:=eq_of_heq h2;subst h2;obtain⟨e,h1,h2,h3,h4,h5,_⟩:=Ag.ali hl;grind [DE.toE_row]
 ·cases h
theorem Rr {H:Az T} {st:Ag T} (hw:AK H st) {id:Ah} {cs:List (DC T)} (h:Jy st id=some cs):B3 cs:=by obtain⟨_,_,e,h1,_,h3⟩:=Hb h;have:=(hw.so e h1).2.2;rw [h3]at this;exact this
def Jz (st:Ag T) (id:Ah):Option ((E:Nat)×(Int×List (T.den E)×Option (Int×Nat))):=match C2 id with
 | true=>none
 | false=>match GP st.so id with
   | some e=>match e.x with
     | .deep E n l h=>some ⟨E,(n,l,h)⟩
     | _=>none
   | none=>none
theorem BW {st:Ag T} {id:Ah} {E:Nat} {n:Int} {l:List (T.den E)} {h:Option (Int×Nat)} (hr:Jz st id=some ⟨E,(n,l,h)⟩):C2 id=false/\st.toSt.ac9 id=some ⟨id,some (E,T.sz E,l.length),Bo T E n l h,true⟩/\ ∃ e∈st.so,e.id=id/\e.x= .deep E n l h:=by
 unfold Jz at hr;split at hr
 ·cases hr
 ·rename_i hmk;split at hr
  ·rename_i e he;split at hr
   ·rename_i E' n' l' h' hx;injection hr with hr;injection hr with h1 h2;subst h1;have h2:=eq_of_heq h2;injection h2 with h2 h3;injection h3 with h3 h4;subst h2 h3 h4;obtain⟨a,b,c⟩:=CM he;have hE:e.toE=⟨id,some (E',T.sz E',l'.length),Bo T E' n' l' h',true⟩:=by grind [DE.toE]
    refine⟨hmk,?_,e,a,b,hx⟩;rw [<-hE];refine c _ (fun y hy=>?_) ?_
    all_goals grind [DE.toE_id,AB.isM]
   ·cases hr
  ·cases hr
def se (st:Ag T) (id:Ah):Option ((E:Nat)×List (T.den E)):=match DA st id with
 | some r=>some r
 | none=>match Jz st id with
   | some ⟨E,(_,l,_)⟩=>some ⟨E,l⟩
   | none=>none
theorem X3 {st:Ag T} {id:Ah} {E:Nat} {l:List (T.den E)} (h:se st id=some ⟨E,l⟩): ∃ e,st.toSt.ac9 id=some e/\e.row=some (E,T.sz E,l.length):=by
 unfold se at h;split at h
 ·rename_i r hr;injection h with h;subst h;exact⟨_,(BK hr).2.1,rfl⟩
 ·split at h
  ·rename_i E' n' l' h' hr;injection h with h;injection h with h1 h2;subst h1;have h2:=eq_of_heq h2;subst h2;exact⟨_,(BW hr).2.1,rfl⟩
  ·cases h
theorem X4: ∀ (ks:List Kd) (y:DK T.den ks),(BP T ks y).length =ks.length
 | [],_=>rfl
 | k::ks,y=>by simp only [BP,List.length_cons,X4 ks y.2]
theorem Ei (E:Nat) (x:T.den E):(T.abz E x).length =T.sz E:=X4 _ _
theorem JA (E:Nat) (n:Int): ∀ (k:Int) (l:List (T.den E)),(AH T E n k l).length =l.length*T.sz E
 | _,[]=>by simp [AH]
 | k,x::l=>by rw [AH,List.length_append,JA E n (k+1) l,List.length_cons,add_mul,one_mul,Nat.add_comm];grind [Ei,AV]
theorem Fi (E:Nat) (n:Int) (l:List (T.den E)) (h:Option (Int×Nat)):(Bo T E n l h).length =l.length*T.sz E:=by unfold Bo;grind [JA]
theorem JB {E:Nat} {n:Int}: ∀ {l:List (T.den E)} {k:Int} {i:Nat} {x:T.den E} {p:Nat},l[i]? =some x->p<T.sz E->(AH T E n k l)[i*T.sz E+p]? =(if k+i<n then T.abz E x else T.enc E x)[p]?
 | [],_,_,_,_,h,_=>by simp at h
 | y::l,k,0,x,p,h,hp=>by
   simp only [List.getElem?_cons_zero,injEq]at h;subst h;rw [AH,Nat.zero_mul,zero_add,List.getElem?_append_left]
   all_goals grind [Ei,AV]
 | y::l,k,i+1,x,p,h,hp=>by
   have hl:(if k<n then T.abz E y else T.enc E y).length =T.sz E:=by grind [Ei,AV]
   rw [AH,List.getElem?_append_right (by rw [hl,add_mul,one_mul];omega),hl,show (i+1)*T.sz E+p - T.sz E=i*T.sz E+p by rw [add_mul,one_mul];omega];rw [JB (by simpa using h) hp];congr 2;push_cast;rw [show k+1+(i:Int)=k+((i:Int)+1) by omega]
def OX:Kd->Bool
 | .u_ _=>false
 | _=>true
theorem ed: ∀ {ks:List Kd} {y:DK T.den ks} {p:Nat},(∀ k,ks[p]? =some k->OX k=true)->(BP T ks y)[p]? =(BD T.enc ks y)[p]?
 | [],_,_,_=>rfl
 | k::ks,y,0,h=>by have:=h k rfl;simp only [BP,BD,List.getElem?_cons_zero,injEq];cases k<;>first | rfl | cases this
 | k::ks,y,p+1,h=>by simp only [BP,BD,List.getElem?_cons_succ];exact ed (fun k' hk=>h k' (by simpa using hk))
def kZ (h:Option (Int×Nat)) (off n:Nat):Bool:=match h with
 | none=>true
 | some (_,o)=> !(Nat.ble off o&&Nat.blt o (off+n))
def ph (T:Bl) (E off n:Nat) (h:Option (Int×Nat)):Bool:=(((T.ks E).drop off).take n).all OX&&kZ h off n
theorem pi {i j N p q:Nat} (hp:p<N) (hq:q<N) (h:i*N+p=j*N+q):p=q:=by grind [Nat.mul_comm,Nat.mul_add_mod,Nat.mod_eq_of_lt]
theorem wW {E:Nat} {nn:Int} {l:List (T.den E)} {h:Option (Int×Nat)} {i:Nat} {x:T.den E} {p:Nat} (hx:l[i]? =some x) (hp:p<T.sz E) (hf: ∀ k,(T.ks E)[p]? =some k->OX k=true) (hh: ∀ j o,h=some (j,o)->o ≠ p/\o<T.sz E):
 (Bo T E nn l h)[i*T.sz E+p]? =(T.enc E x)[p]? :=by
 have base:(AH T E nn 0 l)[i*T.sz E+p]? =(T.enc E x)[p]? :=by
  rw [JB hx hp];split
  ·rw [Bl.abz,ed hf,T.abw]
  ·rfl
 unfold Bo;split
 ·exact base
 ·rename_i j o;rw [List.getElem?_set_ne]
  ·exact base
  ·intro e;obtain⟨h1,h2⟩:=hh j o rfl;exact h1 (pi h2 hp e)
theorem wX {E:Nat} {nn:Int} {l:List (T.den E)} {h:Option (Int×Nat)} {i:Int} {x:T.den E} {off n:Nat} {ag:Bool} (hx:idx l i=some x) (ho:FB ag off n (T.sz E)=true) (hd:ph T E off n h=true) (hb: ∀ j o,h=some (j,o)->o<T.sz E):
 i.toNat*T.sz E+off+n<=(Bo T E nn l h).length /\toV ag (i.toNat*T.sz E+off) n (Bo T E nn l h)=(C1 (T:=T) ag off n (gP E x)).toV :=by
 obtain⟨h1,h2⟩:=CG ho;have hi:=Rm hx;have hxx:l[i.toNat]? =some x:=by have:=kR hx;grind
 have hle:i.toNat*T.sz E+T.sz E<=l.length*T.sz E:=by have:(i.toNat+1)*T.sz E<=l.length*T.sz E:=Nat.mul_le_mul_right _ (by omega);grind
 simp only [ph,and_eq_true,all_eq_true]at hd;have key: ∀ p,off<=p->p<off+n->(Bo T E nn l h)[i.toNat*T.sz E+p]? =(T.enc E x)[p]? :=fun p p1 p2=>by
  refine wW hxx (by omega) (fun k hk=>?_) (fun j o e=>⟨fun eo=>?_,hb j o e⟩)
  ·refine hd.1 k ?_;refine mem_of_getElem? (i:=p - off) ?_;grind
  grind [kZ,Nat.ble_eq_true_of_le,Nat.blt]
 refine⟨by rw [Fi];omega,?_⟩;rw [G9,Gj];unfold toV;have hlen:(Bo T E nn l h).length =l.length*T.sz E:=Fi _ _ _ _;split
 ·congr 1;apply ext_getElem?;grind
 grind
theorem uu {E:Nat} {nn:Int} {l:List (T.den E)} {i:Int} {x:T.den E} {off n:Nat} {ag:Bool} (hx:idx l i=some x) (hn:nn<=i) (ho:FB ag off n (T.sz E)=true):
 i.toNat*T.sz E+off+n<=(Bo T E nn l none).length /\toV ag (i.toNat*T.sz E+off) n (Bo T E nn l none)=(C1 (T:=T) ag off n (gP E x)).toV :=by
 obtain⟨h1,h2⟩:=CG ho;have hi:=Rm hx;have hxx:l[i.toNat]? =some x:=by have:=kR hx;grind
 have hle:i.toNat*T.sz E+T.sz E<=l.length*T.sz E:=by have:(i.toNat+1)*T.sz E<=l.length*T.sz E:=Nat.mul_le_mul_right _ (by omega);grind
 have key: ∀ p,off<=p->p<off+n->(Bo T E nn l none)[i.toNat*T.sz E+p]? =(T.enc E x)[p]? :=fun p p1 p2=>by show (AH T E nn 0 l)[_]? =_;rw [JB hxx (by omega),if_neg (by omega)]
 refine⟨by rw [Fi];omega,?_⟩;rw [G9,Gj];unfold toV;have hlen:(Bo T E nn l none).length =l.length*T.sz E:=Fi _ _ _ _;split
 ·congr 1;apply ext_getElem?;grind
 grind
def wY (N:Nat):Option (Int×Nat)->Bool
 | none=>true
 | some (_,o)=>Nat.blt o N
def k7 (P:Program) (t:TypeId) (key:List GL) (st:Ag T) (v:DV T):M (DV T):=
 match KO P t with
 | none=> .no
 | some (ag,n)=>match v with
   | .c (.c (.ptr id off))=>match Jy st id with
     | some cs=>match FB ag off n cs.length with
       | true=> .ret (C1 ag off n cs)
       | false=> .no
     | none=> .no
   | .c (.ip E _ _ x off)=>match FB ag off n (T.sz E)with
     | true=> .ret (C1 ag off n (gP E x))
     | false=> .no
   | .c (.rp id N i off)=>match DA st id with
     | some ⟨E,l⟩=>match Nat.beq (T.sz E) N&&FB ag off n N with
       | true=> .opt (gk key (idx l i)) fun x=> .ret (C1 ag off n (gP E x))
       | false=> .no
     | none=>match Jz st id with
       | some ⟨E,(nn,l,h)⟩=>match Nat.beq (T.sz E) N&&(FB ag off n N&&(ph T E off n h&&wY (T.sz E) h))with
         | true=> .opt (gk key (idx l i)) fun x=> .ret (C1 ag off n (gP E x))
         | false=>match Nat.beq (T.sz E) N&&(FB ag off n N&&h.isNone)with
           | true=> .opt (gk key (idx l i)) fun x=> .opt (gk key (A1 (nn<=i))) fun _=> .ret (C1 ag off n (gP E x))
           | false=> .no
       | none=> .no
   | .c (.ap id base m E i off)=>match Jy st id with
     | some cs=>match KV E m (cs.drop base),FB ag off n (T.sz E)&&Nat.ble base cs.length with
       | some l,true=> .opt (gk key (idx l i)) fun x=> .ret (C1 ag off n (gP E x))
       | _,_=> .no
     | none=> .no
   | _=> .no
def Rd (H:Az T) (P:Program) (st:Ag T) (key:List GL) (op:Op) (v:DV T):Prop:=
 Bb key=true->v.ok H st.nx/\(DQ P st.toSt (Bb key) op).1/\(DQ P st.toSt (Bb key) op).2=v.toV
theorem k8 {E:Nat} {l:List (T.den E)} {i:Int} {x:T.den E} {off n:Nat} {ag:Bool} (hx:idx l i=some x) (ho:FB ag off n (T.sz E)=true):
 i.toNat*T.sz E+off+n<=(l.flatMap (T.enc E)).length /\toV ag (i.toNat*T.sz E+off) n (l.flatMap (T.enc E))=(C1 (T:=T) ag off n (gP E x)).toV :=by
 obtain⟨h1,h2⟩:=CG ho;refine rX hx (fun y=>AV E y) rfl h1 h2 ?_;rw [G9,Gj]
theorem X5 {H:Az T} {P:Program} {t:TypeId} {key:List GL} {st:Ag T} {v:DV T} (hw:AK H st) (hv:Bb key=true->v.ok H st.nx):
 Yl (k7 P t key st v) (fun r=>Bb key=true->r.ok H st.nx/\(DJ P t st.toSt v.toV).1/\(DJ P t st.toSt v.toV).2=r.toV):=by
 unfold k7;split
 ·exact Yl.no
 ·rename_i ag n ht;split
  ·rename_i id off;split
   ·rename_i cs hb;split
    ·rename_i ho;obtain⟨h1,h2⟩:=CG ho;refine Yl.ret fun _=>⟨HP _ _ _ (Rr hw hb),?_⟩;simp only [DV.toV,DC.toC,DJ,ht,(Hb hb).2.1];rw [G9,AP];grind
    ·exact Yl.no
   ·exact Yl.no
  ·rename_i E l i x off;split
   ·rename_i ho;refine Yl.ret fun hc=>⟨HP _ _ _ (Mp E x),?_⟩;have hx:=hv hc;simp only [DV.ok,DC.ok]at hx;obtain⟨a,b⟩:=k8 (T:=T) hx ho;simp only [DV.toV,DC.toC,DJ,ht];exact⟨⟨a,(CG ho).2⟩,b⟩
   ·exact Yl.no
  ·rename_i id N i off;split
   ·rename_i E l hb;split
    ·rename_i ho;simp only [and_eq_true,beq_eq]at ho;obtain⟨e,ho⟩:=ho;subst e;refine Yl.opt fun x hx=>Yl.ret fun hc=>⟨HP _ _ _ (Mp E x),?_⟩;obtain⟨a,b⟩:=k8 (T:=T) (Rq hx hc) ho;simp only [DV.toV,DC.toC,DJ,ht,(BK hb).2.1];exact⟨⟨a,(CG ho).2⟩,b⟩
    ·exact Yl.no
   ·split
    ·rename_i E nn l h hr;split
     ·rename_i ho;simp only [and_eq_true,beq_eq]at ho;obtain⟨e,ho,hd,hi⟩:=ho;subst e;refine Yl.opt fun x hx=>Yl.ret fun hc=>⟨HP _ _ _ (Mp E x),?_⟩;obtain⟨a,b⟩:=wX (T:=T) (nn:=nn) (Rq hx hc) ho hd (fun j o e=>by simp_all [wY]);simp only [DV.toV,DC.toC,DJ,ht,(BW hr).2.1];exact⟨⟨a,(CG ho).2⟩,b⟩
     ·split
      ·rename_i ho;simp only [and_eq_true,beq_eq,Option.isNone_iff_eq_none]at ho;obtain⟨e,ho,hn⟩:=ho;subst e hn;refine Yl.opt fun x hx=>Yl.opt fun u hu=>Yl.ret fun hc=>⟨HP _ _ _ (Mp E x),?_⟩;obtain⟨a,b⟩:=uu (T:=T) (nn:=nn) (Rq hx hc) (Ck (Rq hu hc)) ho;simp only [DV.toV,DC.toC,DJ,ht,(BW hr).2.1];exact⟨⟨a,(CG ho).2⟩,b⟩
      ·exact Yl.no
    ·exact Yl.no
  ·rename_i id base m E i off;split
   ·rename_i cs hb;split
    ·rename_i l hl ho;refine Yl.opt fun x hx=>Yl.ret fun hc=>⟨HP _ _ _ (Mp E x),?_⟩;simp only [and_eq_true,ble_eq]at ho;obtain⟨ho,auz⟩:=ho;obtain⟨h1,h2⟩:=CG ho;obtain⟨hlen,r,hr⟩:=Eh hl;rw [FT]at hr;have:=wP (cs:=Ax cs) (pre:=(Ax cs).take base) (post:=r) (base:=base) (e:=T.enc E) (N:=T.sz E) (o:=off) (n:=n) (ag:=ag) (v:=(C1 (T:=T) ag off n (gP E x)).toV) (off:=base+i.toNat*T.sz E+off)
      (by grind [take_append_drop]) (by grind [AP]) (Rq hx hc) (fun y=>AV E y) (by omega) h1 h2 (by rw [G9,Gj])
     simp_all [DV.toV,DC.toC,DJ,Hb]
    ·exact Yl.no
   ·exact Yl.no
  ·exact Yl.no
end Go.PL
namespace Go.PL
open Go Go.RowKit
variable {T:Bl}
def X6 (st:Ag T):Operand->Nat
 | .tmp t=>match Nat.blt t st.m with
   | true=>XT st.tm t
   | false=>0
 | _=>0
def TM (key:List GL) (tc:Nat) (w p:Bool):List GL:=match tc with
 | 0=>key
 | t+1=>⟨t,w,p==w⟩::key
def TN:DV T->Option (List GL×Bool)
 | .c (.k .bool q)=>some ([],q)
 | .g k (.c (.k .bool q))=>some (k,q)
 | _=>none
def wZ (key:List GL) (tc:Nat) (p:Bool) (a b:DV T):M (DV T):=
 match TN a,TN b with
 | some (ka,q),some (kb,r)=>match Qn ka (TM key tc true p),Qn kb (TM key tc false p)with
   | true,true=> .ret (.c (.k .bool (if p then q else r)))
   | _,_=> .no
 | _,_=> .no
def X7 (op:BinOp) (k:IntKind) (a b:Int):DC T:=
 match op with
 | .add => .k (.int k) (k.wrap (a+b))
 | .sub => .k (.int k) (k.wrap (a - b))
 | .mul => .k (.int k) (k.wrap (a*b))
 | .quo => .k (.int k) (k.wrap (a.tdiv b))
 | .rem => .k (.int k) (a.tmod b)
 | .and => .k (.int k) (J9 k a b)
 | .or => .k (.int k) (bOr k a b)
 | .xor => .k (.int k) (KP k a b)
 | .andNot => .k (.int k) (gi k a b)
 | .shl => .k (.int k) (k.wrap (a*2 ^ (min b.toNat k.bits)))
 | .shr => .k (.int k) (a.fdiv (2 ^ (min b.toNat k.bits)))
 | .eql => .k .bool (a==b)
 | .neq => .k .bool (a != b)
 | .lss => .k .bool (decide (a<b))
 | .leq => .k .bool (decide (a<=b))
 | .gtr => .k .bool (decide (b<a))
 | .geq => .k .bool (decide (b<=a))
theorem w4 (op:BinOp) (k:IntKind) (a b:Int):(X7 (T:=T) op k a b).toC =(Ke op k a b).2/\(X7 (T:=T) op k a b).ok :=by cases op<;>exact⟨rfl,by simp only [X7,DC.ok]⟩
def Agx (op:BinOp) (a b:List UInt8):Option (DC T):=
 match op with
 | .eql =>some (.k .bool (a==b))
 | .neq =>some (.k .bool (a != b))
 | .lss =>some (.k .bool (Op.bytesLess a b))
 | .leq =>some (.k .bool (Op.bytesLess a b||a==b))
 | .gtr =>some (.k .bool (!(Op.bytesLess a b||a==b)))
 | .geq =>some (.k .bool (!Op.bytesLess a b))
 | _=>none
def k9 (op:BinOp) (b:Bool):Option (DC T):=
 match op with
 | .eql =>some (.k .bool b)
 | .neq =>some (.k .bool !b)
 | _=>none
def mIf {α:Type} (b:Bool) (m:M α):M α:=match b with
 | true=>m
 | false=> .no
theorem Yl.mIf {α:Type} {Φ:α->Prop} {b:Bool} {m:M α} (h:b=true->Yl m Φ):Yl (PL.mIf b m) Φ:=by
 cases b with
 | true=>exact h rfl
 | false=>exact Yl.no
def w5:Operand->Bool
 | .const (.int _ n)=> !(decide (n=0))
 | _=>false
def w6:Operand->Bool
 | .const (.int _ n)=>decide (0<=n)
 | _=>false
def nd (lit:Bool) (key:List GL) (p:Prop) [Decidable p] (v:DV T):M (DV T):=match lit with
 | true=> .ret v
 | false=> .opt (gk key (A1 p)) fun _=> .ret v
def w7 (op:BinOp) (key:List GL) (nz nn:Bool) (k:IntKind) (a b:Int):M (DV T):=
 match op with
 | .quo =>nd nz key (b ≠ 0) (.c (X7 .quo k a b))
 | .rem =>nd nz key (b ≠ 0) (.c (X7 .rem k a b))
 | .shl =>nd nn key (0<=b) (.c (X7 .shl k a b))
 | .shr =>nd nn key (0<=b) (.c (X7 .shr k a b))
 | op=> .ret (.c (X7 op k a b))
def AcO (op:BinOp) (key:List GL) (a b:List UInt8):M (DV T):=
 match op with
 | .add => .opt (gk key (cat a b)) fun s=> .ret (.c (.k .str s))
 | op=>match Agx op a b with
   | some v=> .ret (.c v)
   | none=> .no
def AcP (op:BinOp) (a b:Bool):M (DV T):=
 match op with
 | .eql => .ret (.c (.k .bool (a==b)))
 | .neq => .ret (.c (.k .bool (a != b)))
 | _=> .no
def AdS (P:Program) (op:BinOp) (t:TypeId) (key:List GL) (kc nz nn:Bool) (x y:DV T):M (DV T):=
 match x,y with
 | .c (.k (.int k) a), .c (.k (.int k') b)=>mIf (kEq op k k') (w7 op key nz nn k a b)
 | .c (.k .str a), .c (.k .str b)=>AcO op key a b
 | .c (.k .bool a), .c (.k .bool b)=>mIf (Xi P t) (AcP op a b)
 | .c (.c .aaJ), .c (.c .aaJ)=>mIf (kc&&Kf P t)<|match k9 op true with
   | some v=> .ret (.c v)
   | none=> .no
 | .c (.c .held), .c (.c .aaJ)=>mIf (Kf P t)<|match k9 op false with
   | some v=> .ret (.c v)
   | none=> .no
 | .c (.c (.ptr _ _)), .c (.c .acV)=>mIf (Lw P t)<|match k9 op false with
   | some v=> .ret (.c v)
   | none=> .no
 | .c (.c .acV), .c (.c .acV)=>mIf (Lw P t)<|match k9 op true with
   | some v=> .ret (.c v)
   | none=> .no
 | .c (.rp _ _ _ _), .c (.c .acV)=>mIf (Lw P t)<|match k9 op false with
   | some v=> .ret (.c v)
   | none=> .no
 | .c (.ip _ _ _ _ _), .c (.c .acV)=>mIf (Lw P t)<|match k9 op false with
   | some v=> .ret (.c v)
   | none=> .no
 | .agg cs, .agg ds=>match wj false t cs,wj false t ds with
   | some x,some y=>mIf (oL P t (Ax cs) (Ax ds))<|match op with
     | .eql => .ret (.c (.k .bool (T.beq t x y)))
     | .neq => .ret (.c (.k .bool !(T.beq t x y)))
     | _=> .no
   | _,_=> .no
 | _,_=> .no
section
variable {H:Az T} {P:Program} {st:Ag T} {key:List GL}
theorem eg (hw:AK H st) (hk:Fh H st.nx key) {c:Operand} {p:Bool} (hp:st.arg key c=some (.c (.k .bool p))) (w:Bool):Fh H st.nx (TM key (X6 st c) w p):=by
 unfold TM;split
 ·exact hk
 ·rename_i t ht;intro l hl;rcases mem_cons.1 hl with rfl | hl
  ·unfold X6 at ht;split at ht
   ·rename_i i;split at ht
    ·rename_i hb;obtain⟨h1,h2⟩:=XU hw.tm ht;refine⟨h1,?_⟩;show (p==w)=(gO (H.v t)==w);rw [h2];have e:st.ev (.tmp i)=lk st.tm i:=by show st.get i=_;unfold Ag.get;rw [hb]
     unfold Ag.arg at hp;rw [e]at hp;split at hp
     ·rename_i k v hv;split at hp
      ·injection hp with hp;subst hp;rw [hv];rfl
      ·cases hp
     ·injection hp with hp;rw [hp];rfl
    ·cases ht
   ·cases ht
  ·exact hk l hl
theorem Vk {tc:Nat} {w p:Bool} (hc:Bb key=true) (hp:p=w):Bb (TM key tc w p)=true:=by
 unfold TM;split
 ·exact hc
 ·refine Jw.2 fun l hl=>?_;rcases mem_cons.1 hl with rfl | hl
  all_goals grind [Jw]
theorem Vl {v:DV T} {k:List GL} {q:Bool} (h:TN v=some (k,q)):Qb v.toV=some (Bb k,q):=by
 unfold TN at h;split at h
 ·injection h with h;injection h with h1 h2;subst h1 h2;rfl
 ·injection h with h;injection h with h1 h2;subst h1 h2;rfl
 ·cases h
theorem eh {v:DV T} {k:List GL} {q:Bool} (h:TN v=some (k,q)) {nx:Nat} (hv:v.ok H nx):Fh H nx k:=by
 unfold TN at h;split at h
 ·injection h with h;injection h with h1 h2;subst h1 h2;intro l hl;cases hl
 ·injection h with h;injection h with h1 h2;subst h1 h2;simp only [DV.ok]at hv;exact hv.1
 ·cases h
theorem w8 (hw:AK H st) (hk:Fh H st.nx key) {c a b:Operand} {p:Bool} (hp:st.arg key c=some (.c (.k .bool p))):
 Yl (wZ key (X6 st c) p (st.ev a) (st.ev b)) (fun v=>Bb key=true->v.ok H st.nx/\(Xm p (st.toSt.ev a) (st.toSt.ev b)).1/\(Xm p (st.toSt.ev a) (st.toSt.ev b)).2=v.toV):=by
 unfold wZ;split
 ·rename_i ka q kb r h1 h2;split
  ·rename_i s1 s2;refine Yl.ret fun hc=>⟨by simp only [DV.ok,DC.ok],?_⟩;unfold Xm;rw [st.acp,st.acp,Vl h1,Vl h2];refine⟨⟨fun e=>NP s1 (eh h1 (Ag.apq hw a)) (eg hw hk hp true) (Vk hc e),fun e=>NP s2 (eh h2 (Ag.apq hw b)) (eg hw hk hp false) (Vk hc e)⟩,?_⟩;rfl
  ·exact Yl.no
 ·exact Yl.no
theorem I2 {op:BinOp} {b:Bool} {v:DC T} (h:k9 op b=some v) {s:Prop} (hs:s):(ND op b s).1/\(ND op b s).2= .c v.toC/\v.ok:=by
 unfold k9 at h;split at h
 ·injection h with h;subst h;exact⟨hs,rfl,by simp only [DC.ok]⟩
 ·injection h with h;subst h;exact⟨hs,rfl,by simp only [DC.ok]⟩
 ·cases h
theorem sf {lit:Bool} {p:Prop} [Decidable p] {v:DV T} (hl:lit=true->p):Yl (nd lit key p v) (fun r=>Bb key=true->p/\r=v):=by
 unfold nd;split
 ·exact Yl.ret (by grind)
 ·exact Yl.opt fun u hu=>Yl.ret fun hc=>by have:=Ck (Rq hu hc);grind
theorem w9 {op:BinOp} {nz nn:Bool} {k:IntKind} {a b:Int} (h1:nz=true->b ≠ 0) (h2:nn=true->0<=b):Yl (w7 (T:=T) op key nz nn k a b) (fun v=>Bb key=true->(Ke op k a b).1/\v= .c (X7 op k a b)):=by
 unfold w7;split
 ·exact sf h1
 ·exact sf h1
 ·exact sf h2
 ·exact sf h2
 ·refine Yl.ret fun hc=>⟨?_,rfl⟩;cases op<;>first | trivial | simp_all
def AcQ (nz nn:Bool) (y:DV T):Prop:= ∀ (k:IntKind) (b:Int),y= .c (.k (.int k) b)->(nz=true->b ≠ 0)/\(nn=true->0<=b)
theorem AaD {op:BinOp} {t:TypeId} {kc nz nn:Bool} {x y:DV T} (aDy:AcQ nz nn y):
 Yl (AdS P op t key kc nz nn x y) (fun v=>Bb key=true->v.ok H st.nx/\(Mk P op t kc x.toV y.toV).1/\(Mk P op t kc x.toV y.toV).2=v.toV):=by
 unfold AdS;split
 ·rename_i k a k' b;refine Yl.mIf fun hb=>?_;have hb':=kG hb;have aK6:(Ke op k a b).1->(DV.c (X7 (T:=T) op k a b)).ok H st.nx/\(Mk P op t kc (DV.c (T:=T) (.k (.int k) a)).toV (DV.c (T:=T) (.k (.int k') b)).toV).1/\(Mk P op t kc (DV.c (T:=T) (.k (.int k) a)).toV (DV.c (T:=T) (.k (.int k') b)).toV).2=(DV.c (X7 (T:=T) op k a b)).toV :=by intro hi;obtain⟨q1,q2⟩:=w4 (T:=T) op k a b;simp_all [DV.ok,DV.toV,DC.toC,Bk,Mk,V4]
  obtain⟨l1,l2⟩:=aDy k' b rfl;exact(w9 l1 l2).mono (by grind)
 ·rename_i a b;unfold AcO;split
  ·refine Yl.opt fun s hs=>Yl.ret fun hc=>?_;have:=Rq hs hc;simp only [DV.ok,DC.ok,DV.toV,DC.toC,Bk,Mk,V4,Lu,true_and];exact⟨AcK this,by rw [AcL this]⟩
  ·rename_i hne;split
   ·rename_i v hv;refine Yl.ret fun hc=>?_;unfold Agx at hv;split at hv<;>first
     | (injection hv with hv;subst hv;simp only [DV.ok,DC.ok,DV.toV,DC.toC,Bk,Mk,V4,Lu,and_self])
     | grind
   ·exact Yl.no
 ·rename_i a b;refine Yl.mIf fun hb=>?_;unfold AcP;split
  ·exact Yl.ret fun _=>⟨by simp only [DV.ok,DC.ok],hb,rfl⟩
  ·exact Yl.ret fun _=>⟨by simp only [DV.ok,DC.ok],hb,rfl⟩
  ·exact Yl.no
 ·refine Yl.mIf fun hb=>?_;split
  ·rename_i v hv;refine Yl.ret fun _=>?_;simp only [and_eq_true]at hb;obtain⟨a,b,c⟩:=I2 (s:=kc=true/\Kf P t=true) hv hb;exact⟨by grind [DV.ok],a,by simp only [DV.toV];exact b⟩
  ·exact Yl.no
 ·refine Yl.mIf fun hb=>?_;split
  ·rename_i v hv;refine Yl.ret fun _=>?_;obtain⟨a,b,c⟩:=I2 (s:=Kf P t=true) hv hb;exact⟨by grind [DV.ok],a,by simp only [DV.toV];exact b⟩
  ·exact Yl.no
 ·refine Yl.mIf fun hb=>?_;split
  ·rename_i v hv;refine Yl.ret fun _=>?_;obtain⟨a,b,c⟩:=I2 (s:=Lw P t=true) hv hb;exact⟨by grind [DV.ok],a,by simp only [DV.toV];exact b⟩
  ·exact Yl.no
 ·refine Yl.mIf fun hb=>?_;split
  ·rename_i v hv;refine Yl.ret fun _=>?_;obtain⟨a,b,c⟩:=I2 (s:=Lw P t=true) hv hb;exact⟨by grind [DV.ok],a,by simp only [DV.toV];exact b⟩
  ·exact Yl.no
 ·refine Yl.mIf fun hb=>?_;split
  ·rename_i v hv;refine Yl.ret fun _=>?_;obtain⟨a,b,c⟩:=I2 (s:=Lw P t=true) hv hb;exact⟨by grind [DV.ok],a,by simp only [DV.toV];exact b⟩
  ·exact Yl.no
 ·refine Yl.mIf fun hb=>?_;split
  ·rename_i v hv;refine Yl.ret fun _=>?_;obtain⟨a,b,c⟩:=I2 (s:=Lw P t=true) hv hb;exact⟨by grind [DV.ok],a,by simp only [DV.toV];exact b⟩
  ·exact Yl.no
 ·rename_i cs ds;split
  ·rename_i x y h1 h2;refine Yl.mIf fun hb=>?_;have e:T.beq t x y=BS (Ax cs) (Ax ds):=by rw [T.alw,(HO h1).2 rfl,(HO h2).2 rfl]
   split
   ·refine Yl.ret fun _=>⟨by simp only [DV.ok,DC.ok],?_⟩;simp_all [DV.toV,DC.toC,Bk,Mk,kx]
   ·refine Yl.ret fun _=>⟨by simp only [DV.ok,DC.ok],?_⟩;simp_all [DV.toV,DC.toC,Bk,Mk,kx]
   ·exact Yl.no
  ·exact Yl.no
 ·exact Yl.no
end
end Go.PL
namespace Go.PL
open Go Go.RowKit
variable {T:Bl}
def dun (op:UnOp):DV T->M (DV T)
 | .c (.k (.int k) n)=>match op with
   | .neg => .ret (.c (.k (.int k) (k.wrap (0 - (show Int from n)))))
   | .xor => .ret (.c (.k (.int k) (KP k (if k.signed then -1 else k.max) n)))
   | _=> .no
 | .c (.k .bool b)=>match op with
   | .not => .ret (.c (.k .bool !(show Bool from b)))
   | _=> .no
 | _=> .no
def xa (P:Program) (src dst:TypeId):DV T->M (DV T)
 | .c (.k (.int _) n)=>match kf P dst with
   | some k=>mIf (Aaf P src) (.ret (.c (.k (.int k) (k.wrap n))))
   | none=> .no
 | .c (.k .str s)=>mIf (Eb P src&&Eb P dst) (.ret (.c (.k .str s)))
 | _=> .no
def AaE (st:Ag T) (key:List GL):Option Operand->Option (Option Int)
 | none=>some none
 | some x=>match st.arg key x with
   | some (.c (.k (.int _) n))=>some (some n)
   | _=>none
def AcR (key:List GL) (s:List UInt8) (lo hi:Option Int):M (DV T):=
 .opt (gk key (gL s (lo.getD 0) (hi.getD s.length))) fun r=> .ret (.c (.k .str r))
def AcS (key:List GL) (E:Nat) (l:List (T.den E)) (lo hi:Option Int):M (DV T):=
 .opt (gk key (KS l (lo.getD 0) (hi.getD l.length))) fun r=> .ret (.c (.k (.u_ E) r))
def AdT (P:Program) (t:TypeId) (key:List GL) (x:DV T) (lo hi:Option Int):M (DV T):=
 match x with
 | .c (.k .str s)=>mIf (Eb P t) (AcR key s lo hi)
 | .c (.k (.u_ E) l)=>match Dj P t with
   | some (_,n)=>mIf (Nat.beq n (T.sz E)) (AcS key E l lo hi)
   | none=> .no
 | _=> .no
def xb (P:Program) (s:TypeId) (f:Nat) (x:DV T):M (DV T):=
 match wn P s f with
 | some (o,_,n)=>mIf (Nat.blt 0 n)<|match x with
   | .c (.c (.ptr id off))=> .ret (.c (.c (.ptr id (off+o))))
   | .c (.ip E l i x off)=> .ret (.c (.ip E l i x (off+o)))
   | .c (.rp id N i off)=> .ret (.c (.rp id N i (off+o)))
   | .c (.ap id base m E i off)=> .ret (.c (.ap id base m E i (off+o)))
   | _=> .no
 | none=> .no
def pj (P:Program) (t:TypeId) (f:Nat) (x:DV T):M (DV T):=
 match x with
 | .agg cs=>match wn P t f with
   | some (o,ag,n)=>mIf (FB ag o n cs.length) (.ret (C1 ag o n cs))
   | none=> .no
 | _=> .no
def la (key:List GL) (E:Nat) (l:List (T.den E)) (i:Int) (f:T.den E->DV T):M (DV T):= .opt (gk key (idx l i)) fun x=> .ret (f x)
def AdU (P:Program) (t:TypeId) (key:List GL) (st:Ag T) (x y:DV T):M (DV T):=
 match y with
 | .c (.k (.int _) i)=>match x with
   | .c (.k (.u_ E) l)=>match Dj P t with
     | some (_,n)=>mIf (Nat.beq n (T.sz E)) (la key E l i fun x=> .c (.ip E l i x 0))
     | none=> .no
   | .c (.c (.n_ id))=>match Dj P t,se st id with
     | some (_,n),some ⟨E,l⟩=>la key E l i fun _=> .c (.rp id n i 0)
     | _,_=> .no
   | .c (.c (.ptr id off))=>match Gd P t,Jy st id with
     | some (k,e,n),some cs=>match KV e k (cs.drop off)with
       | some l=>mIf (Nat.beq n (T.sz e)&&Nat.ble off cs.length) (la key e l i fun _=> .c (.ap id off k e i 0))
       | none=> .no
     | _,_=> .no
   | _=> .no
 | _=> .no
def AcT (key:List GL) (s:List UInt8) (i:Int):M (DV T):= .opt (gk key (acT s i)) fun r=> .ret (.c (.k (.int .u8) r))
def xc (P:Program) (t:TypeId) (key:List GL) (x y:DV T):M (DV T):=
 match y with
 | .c (.k (.int _) i)=>match x with
   | .c (.k .str s)=>mIf (Eb P t) (AcT key s i)
   | .agg cs=>match Gd P t with
     | some (k,e,n)=>match KO P e,KV e k cs with
       | some (ag,_),some l=>mIf (Nat.beq n (T.sz e)&&(Nat.blt 0 n&&Nat.beq cs.length (k*n))) (la key e l i fun x=>C1 ag 0 n (gP e x))
       | _,_=> .no
     | none=> .no
   | _=> .no
 | _=> .no
def AdV (i:Nat):DV T->M (DV T)
 | .tup vs=>mIf (Nat.blt i vs.length) (.ret (vs.getD i .u))
 | _=> .no
def xd:DV T->M (DV T)
 | .c (.c (.ptr id off))=> .ret (.c (.c (.ptr id off)))
 | .c (.c (.fn f))=> .ret (.c (.c (.fn f)))
 | .c (.ip E l i x off)=> .ret (.c (.ip E l i x off))
 | .c (.rp id N i off)=> .ret (.c (.rp id N i off))
 | .c (.ap id b m E i off)=> .ret (.c (.ap id b m E i off))
 | .c (.clo b f cs)=> .ret (.c (.clo b f cs))
 | _=> .no
def AdW (P:Program) (t:TypeId) (st:Ag T) (x:DV T):M (DV T):=
 match x with
 | .c (.k .str s)=>mIf (Eb P t) (.ret (.c (.k (.int .i64) ((List.length (α:=UInt8) s:Nat):Int))))
 | .c (.k (.u_ E) l)=>mIf (D6 P t) (.ret (.c (.k (.int .i64) ((List.length (α:=T.den E) l:Nat):Int))))
 | .c (.c (.n_ id))=>match se st id with
   | some ⟨_,l⟩=>mIf (D6 P t) (.ret (.c (.k (.int .i64) ((l.length:Nat):Int))))
   | none=> .no
 | .c (.bs _ _ _ n)=>mIf (D6 P t) (.ret (.c (.k (.int .i64) ((n.toNat:Nat):Int))))
 | .agg _=>match Gd P t with
   | some (k,_,_)=> .ret (.c (.k (.int .i64) ((k:Nat):Int)))
   | none=> .no
 | .c (.c (.ptr _ _))=>match Gd P t with
   | some (k,_,_)=> .ret (.c (.k (.int .i64) ((k:Nat):Int)))
   | none=> .no
 | _=> .no
def Iu (st:Ag T) (key:List GL):List Operand->Option (List (DV T))
 | []=>some []
 | x::xs=>match st.arg key x,Iu st key xs with
   | some v,some vs=>some (v::vs)
   | _,_=>none
abbrev AiH (x:Int) (ys:List Int):Int:=ys.foldl (fun a y=>if y<a then y else a) x
abbrev AiI (x:Int) (ys:List Int):Int:=ys.foldl (fun a y=>if a<y then y else a) x
def AcU (k:IntKind) (x:Int) (ys:List Int):DV T:= .c (.k (.int k) (AiH x ys))
def AcV (k:IntKind) (x:Int) (ys:List Int):DV T:= .c (.k (.int k) (AiI x ys))
def X8:List (DV T)->Option (IntKind×Int×List Int)
 | [.c (.k (.int k) x)]=>some (k,x,[])
 | .c (.k (.int k) x)::vs=>match X8 vs with
   | some (_,y,ys)=>some (k,x,y::ys)
   | none=>none
 | _=>none
def pk:Value->Option (DC T)
 | .int k n=>some (.k (.int k) n)
 | .bool b=>some (.k .bool b)
 | .string s=>some (.k .str s.data.toList)
 | v=>match Xt v with
   | some c=>some (.c c)
   | none=>none
def Rs:List Value->Option (List (DC T))
 | []=>some []
 | v::vs=>match pk v,Rs vs with
   | some c,some cs=>some (c::cs)
   | _,_=>none
def X9 (P:Program) (t:TypeId):Option (List (DC T)):=
 match P.info? t with
 | some i=>match i.zero with
   | some z=>Rs z.cells.toList
   | none=>none
 | none=>none
def DV.cells:DV T->Option (List (DC T))
 | .c x=>some [x]
 | .agg cs=>some cs
 | _=>none
def Vm (place:Nat->Option (Nat×Nat)) (cells:List (DC T)):List (Nat×DV T)->Option (List (DC T))
 | []=>some cells
 | (i,v)::rest=>match place i,v.cells with
   | some (off,size),some cs=>match Nat.beq cs.length size&&Nat.ble (off+size) cells.length with
     | true=>Vm place (cells.take off++(cs++cells.drop (off+size))) rest
     | false=>none
   | _,_=>none
def Hc (st:Ag T) (key:List GL):List (Nat×Operand)->Option (List (Nat×DV T))
 | []=>some []
 | (i,x)::r=>match st.arg key x,Hc st key r with
   | some v,some vs=>some ((i,v)::vs)
   | _,_=>none
def ej:List (DV T)->Option (List (DC T))
 | []=>some []
 | .c x::vs=>match ej vs with
   | some cs=>some (x::cs)
   | none=>none
 | _=>none
def pm (P:Program) (t:TypeId) (key:List GL) (st:Ag T) (ps:List (Nat×Operand)):M (DV T):=
 match X9 P t,Hc st key ps with
 | some z,some vs=>match Vm (plc P t) z vs with
   | some cs=>mIf (wq P t) (.ret (.agg cs))
   | none=> .no
 | _,_=> .no
def LE (P:Program) (key:List GL) (st:Ag T):Op->M (DV T)
 | .move x=> .sm (st.arg key x)
 | .assign x=> .sm (st.arg key x)
 | .pick c a b=>match st.arg key c with
   | some (.c (.k .bool p))=>wZ key (X6 st c) p (st.ev a) (st.ev b)
   | _=> .no
 | .load t x=>match st.arg key x with
   | some v=>k7 P t key st v
   | none=> .no
 | .binOp op t x y _=>match st.arg key x,st.arg key y with
   | some u,some v=>AdS P op t key (BI x||BI y) (w5 y) (w6 y) u v
   | _,_=> .no
 | .unOp op _ x=>match st.arg key x with
   | some v=>dun op v
   | none=> .no
 | .convert src dst x=>match st.arg key x with
   | some v=>xa P src dst v
   | none=> .no
 | .slice t x lo hi none=>match st.arg key x,AaE st key lo,AaE st key hi with
   | some v,some l,some h=>AdT P t key v l h
   | _,_,_=> .no
 | .fieldAddr s x f=>match st.arg key x with
   | some v=>xb P s f v
   | none=> .no
 | .field t x f=>match st.arg key x with
   | some v=>pj P t f v
   | none=> .no
 | .indexAddr t x i=>match st.arg key x,st.arg key i with
   | some u,some v=>AdU P t key st u v
   | _,_=> .no
 | .index t x i=>match st.arg key x,st.arg key i with
   | some u,some v=>xc P t key u v
   | _,_=> .no
 | .extract x i=>match st.arg key x with
   | some v=>AdV i v
   | none=> .no
 | .nilCheck x=>match st.arg key x with
   | some v=>xd v
   | none=> .no
 | .build t ps=>pm P t key st ps.toList
 | .makeFunc (.func f) ⟨[]⟩ akU=>match Iu st key akU.toList with
   | some vs=>match ej vs with
     | some cs=> .ret (.c (.clo false f cs))
     | none=> .no
   | none=> .no
 | .makeFunc (.func f) ⟨x::xs⟩ ⟨[]⟩=>match Iu st key (x::xs)with
   | some vs=>match ej vs with
     | some cs=> .ret (.c (.clo true f cs))
     | none=> .no
   | none=> .no
 | .call c=>match c.callee with
   | .builtin b=>match b,c.args.toList,c.argTypes.toList with
     | .len,[x],[t]=>match st.arg key x with
       | some v=>AdW P t st v
       | none=> .no
     | .min,xs,_=>match Iu st key xs with
       | some vs=>match X8 vs with
         | some (k,x,ys)=> .ret (AcU k x ys)
         | none=> .no
       | none=> .no
     | .max,xs,_=>match Iu st key xs with
       | some vs=>match X8 vs with
         | some (k,x,ys)=> .ret (AcV k x ys)
         | none=> .no
       | none=> .no
     | _,_,_=> .no
   | _=> .no
 | _=> .no
end Go.PL
namespace Go.PL
open Go Go.RowKit
variable {T:Bl}
section
variable {H:Az T} {P:Program} {st:Ag T} {key:List GL}
theorem AdX {op:UnOp} {x:DV T} {g:Prop} {nx:Nat}:Yl (dun op x) (fun v=>g->v.ok H nx/\(zZ op x.toV).1/\(zZ op x.toV).2=v.toV):=by
 unfold dun;split
 ·split
  ·exact Yl.ret fun _=>⟨by simp only [DV.ok,DC.ok],trivial,rfl⟩
  ·exact Yl.ret fun _=>⟨by simp only [DV.ok,DC.ok],trivial,rfl⟩
  ·exact Yl.no
 ·split
  ·exact Yl.ret fun _=>⟨by simp only [DV.ok,DC.ok],trivial,rfl⟩
  ·exact Yl.no
 ·exact Yl.no
theorem xf {s d:TypeId} {x:DV T} {g:Prop} {nx:Nat} {z:St}:Yl (xa P s d x) (fun v=>g->v.ok H nx/\(Kh P s d z x.toV).1/\(Kh P s d z x.toV).2=v.toV):=by
 unfold xa;split
 ·split
  ·rename_i k hk;refine Yl.mIf fun hb=>Yl.ret fun _=>⟨by simp only [DV.ok,DC.ok],?_⟩;simp_all [DV.toV,DC.toC,Bk,Kh]
  ·exact Yl.no
 ·refine Yl.mIf fun hb=>Yl.ret fun _=>⟨by simp only [DV.ok,DC.ok],?_⟩;simp only [and_eq_true]at hb;exact⟨hb,rfl⟩
 ·exact Yl.no
theorem TO (hw:AK H st) (hk:Fh H st.nx key) {x:Option Operand} {o:Option Int} (h:AaE st key x=some o) (hc:Bb key=true):
 (C3 st.toSt (Bb key) x).1/\((o=none/\(C3 st.toSt (Bb key) x).2=none)\/ ∃ k n,o=some n/\(C3 st.toSt (Bb key) x).2=some (.c (.int k n))):=by
 unfold AaE at h;split at h
 ·injection h with h;subst h;exact⟨trivial, .inl ⟨rfl,rfl⟩⟩
 ·split at h
  ·rename_i y k n hy;injection h with h;subst h;obtain⟨_,a,b⟩:=Ag.afA hw hk hy hc;exact⟨a, .inr ⟨k,n,rfl,by simp only [C3,b];rfl⟩⟩
  ·cases h
theorem si {len:Nat} {lo hi:Option Int} {a b:Option V} (ha:(lo=none/\a=none)\/ ∃ k n,lo=some n/\a=some (.c (.int k n))) (hb:(hi=none/\b=none)\/ ∃ k n,hi=some n/\b=some (.c (.int k n))):
 bK len a b=some (lo.getD 0,hi.getD len):=by
 rcases ha with ⟨rfl,rfl⟩ | ⟨k,n,rfl,rfl⟩<;>rcases hb with ⟨rfl,rfl⟩ | ⟨k',n',rfl,rfl⟩<;>rfl
theorem xg {s:List UInt8} {lo hi:Option Int}:Yl (AcR (T:=T) key s lo hi) (fun v=>Bb key=true-> ∃ r,gL s (lo.getD 0) (hi.getD s.length)=some r/\v= .c (.k .str r)):=
 Yl.opt fun r hr=>Yl.ret fun hc=>⟨r,Rq hr hc,rfl⟩
theorem xh {E:Nat} {l:List (T.den E)} {lo hi:Option Int}:Yl (AcS key E l lo hi) (fun v=>Bb key=true-> ∃ r,KS l (lo.getD 0) (hi.getD l.length)=some r/\v= .c (.k (.u_ E) r)):=
 Yl.opt fun r hr=>Yl.ret fun hc=>⟨r,Rq hr hc,rfl⟩
theorem AaF {t:TypeId} {x:DV T} {lo hi:Option Int} {a b:Option V} (ha:Bb key=true->(lo=none/\a=none)\/ ∃ k n,lo=some n/\a=some (.c (.int k n))) (hb:Bb key=true->(hi=none/\b=none)\/ ∃ k n,hi=some n/\b=some (.c (.int k n))) {nx:Nat}:
 Yl (AdT P t key x lo hi) (fun v=>Bb key=true->v.ok H nx/\(GY P t x.toV a b).1/\(GY P t x.toV a b).2=v.toV):=by
 unfold AdT;split
 ·rename_i s;refine Yl.mIf fun hs=>xg.mono fun v hv hc=>?_;obtain⟨r,h1,rfl⟩:=hv hc;have hB:=si (len:=List.length (α:=UInt8) s) (ha hc) (hb hc);refine⟨by simp only [DV.ok,DC.ok],?_⟩;simp only [DV.toV,DC.toC,Bk,GY];grind [AdN,AdO]
 ·rename_i E l;split
  ·rename_i e n abX;refine Yl.mIf fun hs=>xh.mono fun v hv hc=>?_;obtain⟨r,h1,rfl⟩:=hv hc;have hn:n=T.sz E:=(by simp_all);subst hn;have hB:=si (len:=List.length (α:=T.den E) l) (ha hc) (hb hc);refine⟨by simp only [DV.ok,DC.ok],?_⟩;simp only [DV.toV,DC.toC,Bk,GY,abX];grind [wR,ap4,AV,AiD]
  ·exact Yl.no
 ·exact Yl.no
theorem xi {s:TypeId} {f:Nat} {x:DV T} {g:Prop} {nx:Nat} (hx:g->x.ok H nx):Yl (xb P s f x) (fun v=>g->v.ok H nx/\(BV P s f x.toV).1/\(BV P s f x.toV).2=v.toV):=by
 unfold xb;split
 ·rename_i o ag n hf;refine Yl.mIf fun hb=>?_;have hb':0<n:=by simp_all
  split
  ·refine Yl.ret fun _=>⟨by simp only [DV.ok,DC.ok],?_⟩;simp_all [DV.toV,DC.toC,BV]
  ·simp_all [Yl.ret,DV.ok,DC.ok,DV.toV,DC.toC,BV,add_assoc]
  ·refine Yl.ret fun hg=>⟨by simp only [DV.ok,DC.ok],?_⟩;simp_all [DV.toV,DC.toC,BV,add_assoc]
  ·refine Yl.ret fun hg=>⟨by simp only [DV.ok,DC.ok],?_⟩;simp_all [DV.toV,DC.toC,BV,add_assoc]
  ·exact Yl.no
 ·exact Yl.no
theorem uv {t:TypeId} {f:Nat} {x:DV T} {g:Prop} {nx:Nat} (hx:g->x.ok H nx):Yl (pj P t f x) (fun v=>g->v.ok H nx/\(Jf P t f x.toV).1/\(Jf P t f x.toV).2=v.toV):=by
 unfold pj;split
 ·split
  ·rename_i cs o ag n hf;refine Yl.mIf fun hb=>Yl.ret fun hg=>⟨(by grind [HP,DV.ok]),?_⟩;obtain⟨h1,h2⟩:=CG hb;simp_all [DV.toV,Jf,G9,AP]
  ·exact Yl.no
 ·exact Yl.no
theorem Rt {E:Nat} {l:List (T.den E)} {i:Int} {f:T.den E->DV T}:Yl (la key E l i f) (fun v=>Bb key=true-> ∃ x,idx l i=some x/\v=f x):=
 Yl.opt fun r hr=>Yl.ret fun hc=>⟨r,Rq hr hc,rfl⟩
theorem AaG {t:TypeId} {x y:DV T} {nx:Nat}:Yl (AdU P t key st x y) (fun v=>Bb key=true->v.ok H nx/\(B8 P t st.toSt x.toV y.toV).1/\(B8 P t st.toSt x.toV y.toV).2=v.toV):=by
 unfold AdU;split
 ·rename_i k i;split
  ·rename_i E l;split
   ·rename_i e n hs;refine Yl.mIf fun hn=>Rt.mono fun v hv hc=>?_;have hn:n=T.sz E:=(by simp_all);subst hn;obtain⟨x,h1,rfl⟩:=hv hc;refine⟨by grind [DV.ok,DC.ok],?_⟩;simp only [DV.toV,DC.toC,Bk,B8,hs,add_zero];exact⟨Rm h1,trivial⟩
   ·exact Yl.no
  ·rename_i id;split
   ·rename_i e n E l hs hb;refine Rt.mono fun v hv hc=>?_;obtain⟨x,h1,rfl⟩:=hv hc;refine⟨by simp only [DV.ok,DC.ok],?_⟩;obtain⟨ee,e1,e2⟩:=X3 hb;simp only [DV.toV,DC.toC,Bk,B8,hs,e1,e2,add_zero];exact⟨Rm h1,trivial⟩
   ·exact Yl.no
  ·rename_i id off;split
   ·rename_i m e n cs hs hb;split
    ·rename_i l hl;refine Yl.mIf fun hn=>Rt.mono fun v hv hc=>?_;simp only [and_eq_true,beq_eq,ble_eq]at hn;obtain⟨hn,_⟩:=hn;subst hn;obtain⟨x,h1,rfl⟩:=hv hc;refine⟨by simp only [DV.ok,DC.ok],?_⟩;simp only [DV.toV,DC.toC,Bk,B8,hs,add_zero];have:=Rm h1;rw [(Eh hl).1]at this;grind
    ·exact Yl.no
   ·exact Yl.no
  ·exact Yl.no
 ·exact Yl.no
theorem xj {s:List UInt8} {i:Int}:Yl (AcT (T:=T) key s i) (fun v=>Bb key=true-> ∃ r,acT s i=some r/\v= .c (.k (.int .u8) r)):=
 Yl.opt fun r hr=>Yl.ret fun hc=>⟨r,Rq hr hc,rfl⟩
theorem xk {t:TypeId} {x y:DV T} {nx:Nat}:Yl (xc P t key x y) (fun v=>Bb key=true->v.ok H nx/\(Ih P t x.toV y.toV).1/\(Ih P t x.toV y.toV).2=v.toV):=by
 unfold xc;split
 ·rename_i k i;split
  ·rename_i s;refine Yl.mIf fun hs=>xj.mono fun v hv hc=>?_;obtain⟨r,h1,rfl⟩:=hv hc;grind [DV.ok,DC.ok,DV.toV,DC.toC,Bk,Ih,AdL,AdM]
  ·rename_i cs;split
   ·rename_i m e n hs;split
    ·rename_i ag n' l ht hl;refine Yl.mIf fun hn=>Rt.mono fun v hv hc=>?_;simp only [and_eq_true,beq_eq,blt_eq]at hn;obtain⟨hn,h0,hlen⟩:=hn;subst hn;obtain⟨x,h1,rfl⟩:=hv hc;obtain⟨hl1,r,hl2⟩:=Eh hl;have:=wP (cs:=Ax cs) (pre:=[]) (post:=r) (base:=0) (e:=T.enc e) (N:=T.sz e) (o:=0) (n:=T.sz e) (ag:=ag) (v:=(C1 (T:=T) ag 0 (T.sz e) (gP e x)).toV) (off:=i.toNat*T.sz e)
      (by grind) rfl h1 (fun y=>AV e y) (by omega) (by omega) (.inr h0) (by rw [G9,Gj])
     grind [HP,Mp,Rm,DV.toV,DC.toC,Bk,Ih]
    ·exact Yl.no
   ·exact Yl.no
  ·exact Yl.no
 ·exact Yl.no
theorem ek: ∀ (vs:List (DV T)) (i:Nat),(Be vs).getD i .undef =(vs.getD i .u).toV
 | [],_=>by simp [Be,DV.toV]
 | v::vs,0=>by simp [Be]
 | v::vs,i+1=>by simpa [Be] using ek vs i
theorem HQ (vs:List (DV T)):(Be vs).length =vs.length:=by simp [NM]
theorem AaH {i:Nat} {x:DV T} {g:Prop} {nx:Nat} (hx:g->x.ok H nx):Yl (AdV i x) (fun v=>g->v.ok H nx/\(oI i x.toV).1/\(oI i x.toV).2=v.toV):=by
 unfold AdV;split
 ·rename_i vs;refine Yl.mIf fun hb=>Yl.ret fun hg=>⟨?_,?_⟩
  ·grind [DV.ok,NN]
  ·simp only [DV.toV,oI,ek,HQ];simp_all
 ·exact Yl.no
theorem xl {x:DV T} {g:Prop} {nx:Nat} (hx:g->x.ok H nx):Yl (xd x) (fun v=>g->v.ok H nx/\(bL x.toV).1/\(bL x.toV).2=v.toV):=by
 unfold xd;split
 ·exact Yl.ret fun hg=>⟨hx hg,trivial,rfl⟩
 ·exact Yl.ret fun hg=>⟨hx hg,trivial,rfl⟩
 ·grind [Yl.ret,DV.toV,DC.toC,bL]
 ·grind [Yl.ret,DV.toV,DC.toC,bL]
 ·grind [Yl.ret,DV.toV,DC.toC,bL]
 ·rename_i b f cs;refine Yl.ret fun hg=>⟨hx hg,?_⟩;cases b<;>simp only [DV.toV,DC.toC,bL]<;>exact(by grind)
 ·exact Yl.no
theorem AaI {t:TypeId} {x:DV T} {nx:Nat} {g:Prop}:Yl (AdW P t st x) (fun v=>g->v.ok H nx/\(P9 P t st.toSt x.toV).1/\(P9 P t st.toSt x.toV).2=v.toV):=by
 unfold AdW;split
 ·exact Yl.mIf fun hb=>Yl.ret fun _=>⟨by simp only [DV.ok,DC.ok],hb,rfl⟩
 ·exact Yl.mIf fun hb=>Yl.ret fun _=>⟨by simp only [DV.ok,DC.ok],hb,rfl⟩
 ·split
  ·rename_i id E l hr;refine Yl.mIf fun hb=>Yl.ret fun _=>⟨by simp only [DV.ok,DC.ok],?_⟩;obtain⟨ee,e1,e2⟩:=X3 hr;simp_all [DV.toV,DC.toC,Bk,P9]
  ·exact Yl.no
 ·exact Yl.mIf fun hb=>Yl.ret fun _=>⟨by simp only [DV.ok,DC.ok],hb,rfl⟩
 ·split
  ·rename_i k e n ha;refine Yl.ret fun _=>⟨by simp only [DV.ok,DC.ok],?_⟩;simp_all [DV.toV,DC.toC,Bk,P9]
  ·exact Yl.no
 ·split
  ·rename_i k e n ha;refine Yl.ret fun _=>⟨by simp only [DV.ok,DC.ok],?_⟩;simp_all [DV.toV,DC.toC,Bk,P9]
  ·exact Yl.no
 ·exact Yl.no
theorem Dc (hw:AK H st) (hk:Fh H st.nx key) (hc:Bb key=true): ∀ {xs:List Operand} {vs:List (DV T)},Iu st key xs=some vs->
 CL H st.nx vs/\(st.toSt.args (Bb key) xs).1/\(st.toSt.args (Bb key) xs).2=Be vs
 | [],vs,h=>by grind [Iu,CL,St.args,Be]
 | x::xs,vs,h=>by
   unfold Iu at h;split at h
   ·rename_i v vs' h1 h2;injection h with h;subst h;obtain⟨a,b,c⟩:=Ag.afA hw hk h1 hc;obtain⟨a',b',c'⟩:=Dc hw hk hc h2;simp_all [CL,St.args,Be]
   ·cases h
theorem Qo: ∀ {vs:List (DV T)} {r:IntKind×Int×List Int},X8 vs=some r->KQ (Be vs)=some r
 | [],_,h=>by simp [X8]at h
 | [v],r,h=>by
   unfold X8 at h;split at h
   ·rename_i k x he;injection he with he;subst he;injection h with h;subst h;rfl
   all_goals grind
 | v::v'::vs,r,h=>by
   unfold X8 at h;split at h
   ·grind
   ·rename_i k x vs' _ he;injection he with h1 h2;subst h1 h2;split at h
    ·rename_i k' y ys h3;injection h with h;subst h;have:=Qo h3;simp_all [Be,DV.toV,DC.toC,Bk,KQ]
    ·cases h
   ·cases h
theorem lb {v:Value} {c:DC T} (h:pk v=some c):Xt v=some c.toC/\c.ok:=by
 unfold pk at h;split at h
 ·injection h with h;subst h;exact⟨rfl,by simp only [DC.ok]⟩
 ·injection h with h;subst h;exact⟨rfl,by simp only [DC.ok]⟩
 ·injection h with h;subst h;exact⟨rfl,by simp only [DC.ok]⟩
 grind [DC.toC,DC.ok]
theorem Ru: ∀ {vs:List Value} {cs:List (DC T)},Rs vs=some cs->Iy vs=some (Ax cs)/\B3 cs
 | [],cs,h=>by grind [Rs,Iy,Ax,B3]
 | v::vs,cs,h=>by
   unfold Rs at h;split at h
   ·rename_i c cs' h1 h2;injection h with h;subst h;obtain⟨a,b⟩:=lb h1;obtain⟨a',b'⟩:=Ru h2;simp [Iy,a,a',Ax,B3,b,b']
   ·cases h
theorem NQ {t:TypeId} {cs:List (DC T)} (h:X9 P t=some cs):Xu P t=some (Ax cs)/\B3 cs:=by grind [X9,Xu,Ru]
theorem DV.adz {v:DV T} {cs:List (DC T)} (h:v.cells=some cs):v.toV.cells=some (Ax cs)/\(∀ {H:Az T} {nx:Nat},v.ok H nx->B3 cs):=by unfold DV.cells at h;grind [DV.toV,V.cells,Ax,B3,DV.ok]
def lf (l:List (Nat×DV T)):List (Nat×V):=l.map fun x=>(x.1,x.2.toV)
theorem FV (hw:AK H st) (hk:Fh H st.nx key) (hc:Bb key=true): ∀ {ps:List (Nat×Operand)} {vs:List (Nat×DV T)},Hc st key ps=some vs->
 (∀ x∈vs,x.2.ok H st.nx)/\(st.toSt.parts (Bb key) ps).1/\(st.toSt.parts (Bb key) ps).2=lf vs
 | [],vs,h=>by grind [Hc,St.parts,lf]
 | (i,x)::r,vs,h=>by
   unfold Hc at h;split at h
   ·rename_i v vs' h1 h2;injection h with h;subst h;obtain⟨a,b,c⟩:=Ag.afA hw hk h1 hc;obtain⟨a',b',c'⟩:=FV hw hk hc h2;simp only [St.parts,lf,c,c',map_cons];grind
   ·cases h
theorem JC {place:Nat->Option (Nat×Nat)}: ∀ {vs:List (Nat×DV T)} {cells cs:List (DC T)},Vm place cells vs=some cs->
 Jm place (Ax cells) (lf vs)=some (Ax cs)/\ ∀ {H:Az T} {nx:Nat},B3 cells->(∀ x∈vs,x.2.ok H nx)->B3 cs
 | [],cells,cs,h=>by simp [Vm]at h;subst h;exact⟨rfl,fun hc _=>hc⟩
 | (i,v)::rest,cells,cs,h=>by
   unfold Vm at h;split at h
   ·rename_i off size ds h1 h2;split at h
    ·rename_i hb;simp only [and_eq_true,beq_eq,ble_eq]at hb;obtain⟨a,b⟩:=DV.adz h2;obtain⟨a',b'⟩:=JC h;refine⟨?_,fun hc hv=>b' (C7 (TK hc _) (C7 (b (hv (i,v) (by simp))) (TL hc _))) (fun x hx=>hv x (by simp [hx]))⟩;simp only [lf,map_cons,Jm,h1,a];rw [if_pos (by rw [AP,AP];exact hb)];rw [<-a',CF,CF,I1,FT,List.append_assoc];rfl
    ·cases h
   ·cases h
theorem Qp: ∀ {vs:List (DV T)} {cs:List (DC T)},ej vs=some cs->gA (Be vs)=some (Ax cs)/\ ∀ {H:Az T} {nx:Nat},CL H nx vs->B3 cs
 | [],cs,h=>by grind [ej,Be,gA,Ax,B3]
 | v::vs,cs,h=>by
   unfold ej at h;split at h
   ·cases ‹_=([]:List (DV T))›
   ·rename_i x vs' he;injection he with h1 h2;subst h1 h2;split at h
    ·rename_i cs' hcs;injection h with h;subst h;obtain⟨a,b⟩:=Qp hcs;refine⟨by simp [Be,DV.toV,gA,a,Ax],fun hv=>?_⟩;simp only [CL,DV.ok]at hv;simp only [B3];exact⟨hv.1,b hv.2⟩
    ·cases h
   ·cases h
theorem uw (hw:AK H st) (hk:Fh H st.nx key) {t:TypeId} {ps:List (Nat×Operand)}:
 Yl (pm P t key st ps) (fun v=>Bb key=true->v.ok H st.nx/\(NG P st.toSt (Bb key) t ps).1/\(NG P st.toSt (Bb key) t ps).2=v.toV):=by
 unfold pm;split
 ·rename_i z vs hz hp;split
  ·rename_i cs hf;refine Yl.mIf fun ho=>Yl.ret fun hc=>?_;obtain⟨a,b⟩:=NQ hz;obtain⟨p1,p2,p3⟩:=FV hw hk hc hp;obtain⟨q1,q2⟩:=JC hf;refine⟨by simp only [DV.ok];exact q2 b p1,?_⟩;simp_all [NG,DV.toV]
  ·exact Yl.no
 ·exact Yl.no
theorem xm {y:Operand} {v:DV T} (h:st.arg key y=some v):AcQ (w5 y) (w6 y) v:=by
 intro k b hv;subst hv;have hc: ∀ (k':IntKind) (n:Int),y= .const (.int k' n)->b=n:=by grind [Ag.arg,Ag.ev,TJ,Vg]
 constructor
 ·intro h1;unfold w5 at h1;grind
 ·intro h1;unfold w6 at h1;grind
theorem LF (hw:AK H st) (hk:Fh H st.nx key) (op:Op):Yl (LE P key st op) (Rd H P st key op):=by
 have A: ∀ {x:Operand} {v:DV T},st.arg key x=some v->Bb key=true->v.ok H st.nx/\(st.toSt.arg (Bb key) x).1/\(st.toSt.arg (Bb key) x).2=v.toV:=(by grind [Ag.afA]);unfold LE;split
 ·exact Yl.sm fun v hv hc=>A hv hc
 ·exact Yl.sm fun v hv hc=>A hv hc
 ·rename_i c a b;split
  ·rename_i p hp;refine(w8 hw hk hp).mono fun v hv hc=>?_;grind [DV.toV,DC.toC,Bk,DQ,rd,Z_]
  ·exact Yl.no
 ·rename_i t x;split
  ·rename_i v hx;refine(X5 hw (by grind)).mono fun r hr hc=>?_;grind [DQ,rd,Z_]
  ·exact Yl.no
 ·rename_i op t x y ty;split
  ·rename_i u v hx hy;refine(AaD (H:=H) (st:=st) (xm hy)).mono fun r hr hc=>?_;obtain⟨q0,q1,q2⟩:=hr hc;obtain⟨_,k1,k2⟩:=A hx hc;obtain⟨_,k3,k4⟩:=A hy hc;refine⟨q0,?_⟩;have e:DQ P st.toSt (Bb key) (.binOp op t x y ty)=((st.toSt.arg (Bb key) x).1/\(st.toSt.arg (Bb key) y).1/\(Mk P op t (BI x||BI y) (st.toSt.arg (Bb key) x).2 (st.toSt.arg (Bb key) y).2).1,(Mk P op t (BI x||BI y) (st.toSt.arg (Bb key) x).2 (st.toSt.arg (Bb key) y).2).2):=by
    simp only [DQ];unfold Mk;split
    ·grind
    ·rename_i hne;split
     ·grind
     ·rfl
   grind
  ·exact Yl.no
 ·rename_i op t x;split
  ·rename_i v hx;refine(AdX (H:=H) (g:=Bb key=true) (nx:=st.nx)).mono fun r hr hc=>?_;grind [DQ,rd,Z_]
  ·exact Yl.no
 ·rename_i s d x;split
  ·rename_i v hx;refine(xf (H:=H) (g:=Bb key=true) (nx:=st.nx) (z:=st.toSt)).mono fun r hr hc=>?_;grind [DQ,rd,Z_]
  ·exact Yl.no
 ·rename_i t x lo hi;split
  ·rename_i v l h hx hl hh;refine(AaF (H:=H) (nx:=st.nx) (a:=(C3 st.toSt (Bb key) lo).2) (b:=(C3 st.toSt (Bb key) hi).2) (fun hc=>(TO hw hk hl hc).2) (fun hc=>(TO hw hk hh hc).2)).mono fun r hr hc=>?_;grind [DQ,rd,Z_,TO]
  ·exact Yl.no
 ·rename_i s x f;split
  ·rename_i v hx;refine(xi (H:=H) (g:=Bb key=true) (nx:=st.nx) (by grind)).mono fun r hr hc=>?_;grind [DQ,rd,Z_]
  ·exact Yl.no
 ·rename_i t x f;split
  ·rename_i v hx;refine(uv (H:=H) (g:=Bb key=true) (nx:=st.nx) (by grind)).mono fun r hr hc=>?_;grind [DQ,rd,Z_]
  ·exact Yl.no
 ·rename_i t x y;split
  ·rename_i u v hx hy;refine(AaG (H:=H) (nx:=st.nx)).mono fun r hr hc=>?_;grind [DQ,rd,Z_]
  ·exact Yl.no
 ·rename_i t x y;split
  ·rename_i u v hx hy;refine(xk (H:=H) (nx:=st.nx)).mono fun r hr hc=>?_;grind [DQ,rd,Z_]
  ·exact Yl.no
 ·rename_i x i;split
  ·rename_i v hx;refine(AaH (H:=H) (g:=Bb key=true) (nx:=st.nx) (by grind)).mono fun r hr hc=>?_;grind [DQ,rd,Z_]
  ·exact Yl.no
 ·rename_i x;split
  ·rename_i v hx;refine(xl (H:=H) (g:=Bb key=true) (nx:=st.nx) (by grind)).mono fun r hr hc=>?_;grind [DQ,rd,Z_]
  ·exact Yl.no
 ·exact uw hw hk
 ·rename_i f akU;split
  ·rename_i vs hvs;split
   ·rename_i cs hcs;refine Yl.ret fun hc=>?_;obtain⟨a,b,c⟩:=Dc hw hk hc hvs;obtain⟨d,e⟩:=Qp hcs;refine⟨by grind [DV.ok,DC.ok],?_⟩;simp_all [DQ,DV.toV,DC.toC]
   ·exact Yl.no
  ·exact Yl.no
 ·rename_i f x xs;split
  ·rename_i vs hvs;split
   ·rename_i cs hcs;refine Yl.ret fun hc=>?_;obtain⟨a,b,c⟩:=Dc hw hk hc hvs;obtain⟨d,e⟩:=Qp hcs;refine⟨by grind [DV.ok,DC.ok],?_⟩;simp_all [DQ,DV.toV,DC.toC]
   ·exact Yl.no
  ·exact Yl.no
 ·rename_i c;split
  ·rename_i b hb;split
   ·rename_i x t h1 h2;split
    ·rename_i v hx;refine(AaI (H:=H) (g:=Bb key=true) (nx:=st.nx)).mono fun r hr hc=>?_;grind [DQ,rd,Qc,Z_]
    ·exact Yl.no
   ·split
    ·rename_i vs hvs;split
     ·rename_i k x ys hi;refine Yl.ret fun hc=>?_;obtain⟨a,b',c'⟩:=Dc hw hk hc hvs;refine⟨by simp only [AcU,DV.ok,DC.ok],?_⟩;simp only [DQ,rd,hb,Qc,c',oE,Qo hi];exact⟨⟨b',trivial⟩,rfl⟩
     ·exact Yl.no
    ·exact Yl.no
   ·split
    ·rename_i vs hvs;split
     ·rename_i k x ys hi;refine Yl.ret fun hc=>?_;obtain⟨a,b',c'⟩:=Dc hw hk hc hvs;refine⟨by simp only [AcV,DV.ok,DC.ok],?_⟩;simp only [DQ,rd,hb,Qc,c',oF,Qo hi];exact⟨⟨b',trivial⟩,rfl⟩
     ·exact Yl.no
    ·exact Yl.no
   ·exact Yl.no
  ·exact Yl.no
 ·exact Yl.no
end
end Go.PL
namespace Go.PL
open Go Go.RowKit
variable {T:Bl}
def Ag.put (st:Ag T) (d:Option Nat) (v:DV T):Ag T:=match d with
 | some d=>{st with tm:=(d,st.nx,v)::st.tm,nx:=st.nx+1}
 | none=>st
theorem lg (m d t:Nat) (v:DV T) (tm:Tm T):AI m ((d,t,v)::tm)=(AI m tm).set d v.toV:=by
 apply ext_getElem?;intro i;unfold AI;rw [List.getElem?_set];simp only [getElem?_map,List.length_map,List.length_range];by_cases hi:i<m
 ·rw [List.getElem?_range hi];simp only [Option.map_some,lk];by_cases hd:d=i
  ·simp_all
  grind [Nat.eq_of_beq_eq_true]
 grind
theorem Ag.r_ (st:Ag T) (d:Option Nat) (v:DV T):(st.put d v).toSt =st.toSt.put d v.toV:=by cases d<;>grind [Ag.put,Ag.toSt,St.put,lg]
def Az.agL (H:Az T) (t:Nat) (v:DV T):Az T:=⟨fun i=>if i=t then v else H.v i,H.e⟩
def Az.aar (H:Az T) (t:Nat) (e:DE T):Az T:=⟨H.v,fun i=>if i=t then e else H.e i⟩
theorem C4.agL (H:Az T) (t:Nat) (v:DV T):C4 t H (H.agL t v):=fun i hi=>⟨by simp only [Az.agL];grind,rfl⟩
theorem C4.aar (H:Az T) (t:Nat) (e:DE T):C4 t H (H.aar t e):=fun i hi=>⟨rfl,by simp only [Az.aar];grind⟩
structure Nx (H:Az T) (st:Ag T) (H':Az T) (d_:Ag T):Prop where
 ext:C4 st.nx H H'
 le:st.nx<=d_.nx
 ok:AK H' d_
theorem Nx.refl {H:Az T} {st:Ag T} (h:AK H st):Nx H st H st:=⟨C4.refl _ _,le_refl _,h⟩
theorem Nx.trans {H H' H'':Az T} {a b c:Ag T} (h:Nx H a H' b) (k:Nx H' b H'' c):Nx H a H'' c:=⟨h.ext.trans k.ext h.le,Nat.le_trans h.le k.le,k.ok⟩
theorem Fj {H H':Az T} {n m:Nat} (he:C4 n H H') (hnm:n<=m) {l:List (DE T)} (h: ∀ e∈l,e.tag<n/\H.e e.tag=e/\e.x.ok): ∀ e∈l,e.tag<m/\H'.e e.tag=e/\e.x.ok:=fun e hm=>by obtain⟨a,b,c⟩:=h e hm;exact⟨(by grind),by rw [(he e.tag a).2];exact b,c⟩
theorem Ag.aaL {H:Az T} {st:Ag T} (h:AK H st) (d:Option Nat) {v:DV T} (hv:v.ok H st.nx): ∃ H',Nx H st H' (st.put d v):=by
 cases d with
 | none=>exact⟨H,Nx.refl h⟩
 | some d=>
   have he:=C4.agL H st.nx v;refine⟨H.agL st.nx v,he,by simp [Ag.put],?_,?_,?_,h.nd⟩
   ·intro s t w hm;simp only [Ag.put]at hm ⊢;rcases mem_cons.1 hm with hm | hm
    ·injection hm with h1 hm;injection hm with h2 h3;subst h1 h2 h3;exact⟨Nat.lt_succ_self _,by simp [Az.agL],DV.ads he (le_succ _) hv⟩
    ·exact BT he (le_succ _) h.tm s t w hm
   ·intro f hf;exact BT he (le_succ _) (h.gh f hf)
   ·exact Fj he (le_succ _) h.so
def Pt (p:DV T->Bool) (f:DV T->DV T):Nat->Tm T->Tm T
 | _,[]=>[]
 | n,(s,t,v)::r=>match p v with
   | true=>(s,n,f v)::Pt p f (n+1) r
   | false=>(s,t,v)::Pt p f (n+1) r
def Qq (p:DV T->Bool) (f:DV T->DV T):Nat->List (Nat×Tm T)->List (Nat×Tm T)
 | _,[]=>[]
 | n,(m,tm)::r=>(m,Pt p f n tm)::Qq p f (n+tm.length) r
def M7:List (Nat×Tm T)->Nat
 | []=>0
 | (_,tm)::r=>tm.length+M7 r
def Qr (q:DX T->Bool) (g:DX T->DX T):Nat->List (DE T)->List (DE T)
 | _,[]=>[]
 | n,e::r=>match q e.x with
   | true=>⟨e.id,n,g e.x⟩::Qr q g (n+1) r
   | false=>e::Qr q g (n+1) r
def Ag.aet (p:DV T->Bool) (f:DV T->DV T) (q:DX T->Bool) (g:DX T->DX T) (st:Ag T):Ag T:=
 {st with tm:=Pt p f st.nx st.tm,gh:=Qq p f (st.nx+st.tm.length) st.gh,so:=Qr q g (st.nx+st.tm.length+M7 st.gh) st.so,nx:=st.nx+st.tm.length+M7 st.gh+st.so.length}
section
variable {p:DV T->Bool} {f:DV T->DV T} {q:DX T->Bool} {g:DX T->DX T}
theorem W2 (hf: ∀ {H:Az T} {n:Nat} {v:DV T},v.ok H n->(f v).ok H n): ∀ (tm:Tm T) (n:Nat) (H:Az T),Qm H n tm-> ∃ H',C4 n H H'/\Qm H' (n+tm.length) (Pt p f n tm)
 | [],n,H,_=>⟨H,C4.refl _ _,fun _ _ _ h=>by cases h⟩
 | (s,t,v)::r,n,H,h=>by
   obtain⟨a,b,c⟩:=h s t v (by simp);have hr:Qm H n r:=fun s' t' v' hm=>h s' t' v' (by simp [hm]);unfold Pt;split
   ·have he:=C4.agL H n (f v);obtain⟨H',h1,h2⟩:=W2 hf r (n+1) (H.agL n (f v)) (BT he (le_succ _) hr);refine⟨H',he.trans h1 (le_succ _),fun s' t' v' hm=>?_⟩;rw [show n+((s,t,v)::r).length =n+1+r.length by simp;omega];rcases mem_cons.1 hm with hm | hm
    ·injection hm with e1 hm;injection hm with e2 e3;subst e1 e2 e3;refine⟨by omega,?_,DV.ads (he.trans h1 (le_succ _)) (by omega) (hf c)⟩;rw [(h1 t' (by omega)).1];simp [Az.agL]
    ·exact h2 s' t' v' hm
   ·obtain⟨H',h1,h2⟩:=W2 hf r (n+1) H (BT (C4.refl _ _) (le_succ _) hr);have h1':C4 n H H':=fun i hi=>h1 i (by omega);refine⟨H',h1',fun s' t' v' hm=>?_⟩;rw [show n+((s,t,v)::r).length =n+1+r.length by simp;omega];rcases mem_cons.1 hm with hm | hm
    ·injection hm with e1 hm;injection hm with e2 e3;subst e1 e2 e3;refine⟨by omega,?_,DV.ads h1' (by omega) c⟩;rw [(h1' t' a).1];exact b
    ·exact h2 s' t' v' hm
theorem sj (hf: ∀ {H:Az T} {n:Nat} {v:DV T},v.ok H n->(f v).ok H n): ∀ (l:List (Nat×Tm T)) (n:Nat) (H:Az T),(∀ x∈l,Qm H n x.2)-> ∃ H',C4 n H H'/\ ∀ x∈Qq p f n l,Qm H' (n+M7 l) x.2
 | [],n,H,_=>⟨H,C4.refl _ _,fun _ h=>by cases h⟩
 | (m,tm)::r,n,H,h=>by
   obtain⟨H1,a,b⟩:=W2 (p:=p) hf tm n H (h (m,tm) (by simp));obtain⟨H2,c,d⟩:=sj hf r (n+tm.length) H1 (by grind [BT]);refine⟨H2,a.trans c (by omega),fun x hx=>?_⟩;have e:n+M7 ((m,tm)::r)=n+tm.length+M7 r:=by simp [M7];omega
   rw [e];rcases mem_cons.1 hx with rfl | hx
   all_goals grind [BT]
theorem gQ (hg: ∀ {x:DX T},x.ok->(g x).ok): ∀ (l:List (DE T)) (n:Nat) (H:Az T),(∀ e∈l,e.tag<n/\H.e e.tag=e/\e.x.ok)-> ∃ H',C4 n H H'/\ ∀ e∈Qr q g n l,e.tag<n+l.length/\H'.e e.tag=e/\e.x.ok
 | [],n,H,_=>⟨H,C4.refl _ _,fun _ h=>by cases h⟩
 | e::r,n,H,h=>by
   obtain⟨a,b,c⟩:=h e (by simp);have hr: ∀ e∈r,e.tag<n/\H.e e.tag=e/\e.x.ok:=(by grind);unfold Qr;split
   ·have he:=C4.aar H n ⟨e.id,n,g e.x⟩;obtain⟨H',h1,h2⟩:=gQ hg r (n+1) (H.aar n ⟨e.id,n,g e.x⟩) (Fj he (le_succ _) hr);refine⟨H',he.trans h1 (le_succ _),fun x hm=>?_⟩;rw [show n+(e::r).length =n+1+r.length by simp;omega];rcases mem_cons.1 hm with rfl | hm
    ·refine⟨by grind,?_,hg c⟩;simp only;rw [(h1 n (by omega)).2];simp [Az.aar]
    grind
   ·obtain⟨H',h1,h2⟩:=gQ hg r (n+1) H (by grind);have h1':C4 n H H':=fun i hi=>h1 i (by omega);refine⟨H',h1',fun x hm=>?_⟩;rw [show n+(e::r).length =n+1+r.length by simp;omega];rcases mem_cons.1 hm with rfl | hm
    ·exact⟨by omega,by rw [(h1' x.tag a).2];exact b,c⟩
    grind
theorem lh: ∀ (l:List (DE T)) (n:Nat),(Qr q g n l).map DE.id=l.map DE.id
 | [],_=>rfl
 | e::r,n=>by unfold Qr;split<;>simp [lh r]
theorem Ag.aeP {H:Az T} {st:Ag T} (h:AK H st) (hf: ∀ {H:Az T} {n:Nat} {v:DV T},v.ok H n->(f v).ok H n) (hg: ∀ {x:DX T},x.ok->(g x).ok): ∃ H',Nx H st H' (st.aet p f q g):=by
 obtain⟨H1,a1,b1⟩:=W2 (p:=p) hf st.tm st.nx H h.tm;obtain⟨H2,a2,b2⟩:=sj (p:=p) hf st.gh (st.nx+st.tm.length) H1 (fun x hx=>BT a1 (by omega) (h.gh x hx));obtain⟨H3,a3,b3⟩:=gQ (q:=q) hg st.so (st.nx+st.tm.length+M7 st.gh) H2 (Fj (a1.trans a2 (by omega)) (by omega) h.so);have a23:C4 (st.nx+st.tm.length) H1 H3:=a2.trans a3 (by omega);refine⟨H3,a1.trans a23 (by omega),by grind [Ag.aet],?_,?_,b3,by simp only [Ag.aet,lh];exact h.nd⟩
 all_goals grind [BT,Ag.aet]
theorem Mq (hu:p .u =false) (i:Nat): ∀ (tm:Tm T) (n:Nat),lk (Pt p f n tm) i=(match p (lk tm i)with | true=>f (lk tm i) | false=>lk tm i)
 | [],n=>by simp [Pt,lk,hu]
 | (s,t,v)::r,n=>by
   unfold Pt;split
   ·rename_i hp;simp only [lk];cases Nat.beq s i with
    | true=>simp only [hp]
    | false=>exact Mq hu i r (n+1)
   ·rename_i hp;simp only [lk];cases Nat.beq s i with
    | true=>simp only [hp]
    | false=>exact Mq hu i r (n+1)
theorem li {F:V->V} (hu:p .u =false) {tm:Tm T} (h1: ∀ i,p (lk tm i)=true->(f (lk tm i)).toV =F (lk tm i).toV) (h2: ∀ i,p (lk tm i)=false->F (lk tm i).toV =(lk tm i).toV) (m n:Nat):AI m (Pt p f n tm)=(AI m tm).map F:=by unfold AI;rw [map_map];apply List.map_congr_left;intro i _;simp only [Function.comp,Mq hu];grind
theorem lj {F:V->V} (hu:p .u =false): ∀ {l:List (Nat×Tm T)} (n:Nat),(∀ x∈l, ∀ i,(p (lk x.2 i)=true->(f (lk x.2 i)).toV =F (lk x.2 i).toV)/\(p (lk x.2 i)=false->F (lk x.2 i).toV =(lk x.2 i).toV))->
 (Qq p f n l).flatMap (fun f=>AI f.1 f.2)=(l.flatMap fun f=>AI f.1 f.2).map F
 | [],_,_=>rfl
 | (m,tm)::r,n,h=>by simp only [Qq,flatMap_cons,map_append];rw [lj hu (n+tm.length) (fun x hx=>h x (by simp [hx])),li hu (fun i=>(h (m,tm) (by simp) i).1) (fun i=>(h (m,tm) (by simp) i).2)]
theorem NR {F:AB->AB}: ∀ {l:List (DE T)} (n:Nat),(∀ e∈l,(q e.x=true-> ∀ t,(⟨e.id,t,g e.x⟩:DE T).toE =F e.toE)/\(q e.x=false->F e.toE=e.toE))->(Qr q g n l).map DE.toE=(l.map DE.toE).map F
 | [],_,_=>rfl
 | e::r,n,h=>by
   have ih:=NR (n+1) (fun x hx=>h x (by simp [hx])) (l:=r);unfold Qr;split
   ·rename_i hq;simp only [map_cons,ih,(h e (by simp)).1 hq]
   ·rename_i hq;simp only [map_cons,ih,(h e (by simp)).2 hq]
end
theorem CI (a b:Ah):Bc a b=(a==b):=by grind [AQ]
def AaJ (id:Ah):C->Bool
 | .n_ i=>Bc i id
 | .ptr i _=>Bc i id
 | .bsl i _ _=>Bc i id
 | .rsl i _ _ _=>Bc i id
 | .bld i _=>Bc i id
 | .agP i=>Bc i id
 | .clo _ cs=>BO id cs
 | .bmv _ cs=>BO id cs
 | _=>false
theorem AaK (id:Ah) (c:C):AaJ id c=c.E_ id:=by cases c<;>simp only [AaJ,C.E_,CI]
mutual
def DC.E_ (id:Ah):DC T->Bool
 | .c x=>AaJ id x
 | .rp i _ _ _=>Bc i id
 | .ap i _ _ _ _ _=>Bc i id
 | .bs i _ _ _=>Bc i id
 | .clo _ _ cs=>Rv id cs
 | .k _ _=>false
 | .ip .. =>false
def Rv (id:Ah):List (DC T)->Bool
 | []=>false
 | c::cs=>match c.E_ id with
   | true=>true
   | false=>Rv id cs
end
mutual
theorem DC.ajn (id:Ah): ∀ c:DC T,c.E_ id=c.toC.E_ id
 | .c x=>by simp only [DC.E_,DC.toC,AaK]
 | .rp .. =>by simp only [DC.E_,DC.toC,C.E_,CI]
 | .ap .. =>by simp only [DC.E_,DC.toC,C.E_,CI]
 | .bs .. =>by simp only [DC.E_,DC.toC,C.E_,CI]
 | .clo true _ cs=>by simp only [DC.E_,DC.toC,C.E_,NS id cs]
 | .clo false _ cs=>by simp only [DC.E_,DC.toC,C.E_,NS id cs]
 | .k kd x=>by cases kd<;>simp only [DC.E_,DC.toC,Bk,C.E_]
 | .ip .. =>by simp only [DC.E_,DC.toC,C.E_]
theorem NS (id:Ah): ∀ cs:List (DC T),Rv id cs=BO id (Ax cs)
 | []=>by simp only [Rv,Ax,BO]
 | c::cs=>by simp only [Rv,Ax,BO,DC.ajn id c,NS id cs];cases c.toC.E_ id<;>rfl
end
mutual
def DV.E_ (id:Ah):DV T->Bool
 | .c x=>x.E_ id
 | .agg cs=>Rv id cs
 | .tup vs=>ep id vs
 | .g _ v=>v.E_ id
 | .u =>false
def ep (id:Ah):List (DV T)->Bool
 | []=>false
 | v::vs=>match v.E_ id with
   | true=>true
   | false=>ep id vs
end
mutual
theorem DV.ajm (id:Ah): ∀ v:DV T,v.E_ id=false->v.toV.E_ id=false
 | .c x,h=>by grind [DV.E_,DV.toV,V.E_,DC.ajn]
 | .agg cs,h=>by grind [DV.E_,DV.toV,V.E_,NS]
 | .tup vs,h=>by simp only [DV.E_]at h;simp only [DV.toV,V.E_];exact ll id vs h
 | .g k v,h=>by simp only [DV.E_]at h;simp only [DV.toV,V.E_,DV.ajm id v h,Bool.false_and]
 | .u,_=>by simp only [DV.toV,V.E_]
theorem ll (id:Ah): ∀ vs:List (DV T),ep id vs=false->KN id (Be vs)=false
 | [],_=>by simp only [Be,KN]
 | v::vs,h=>by
   simp only [ep]at h;split at h
   ·cases h
   ·rename_i hv;simp only [Be,KN,DV.ajm id v hv,ll id vs h,Bool.or_self]
end
def Ya (id:Ah) (c:DC T):DC T:=match c.E_ id with
 | true=> .c .any
 | false=>c
def DX.E_ (id:Ah):DX T->Bool
 | .box cs=>Rv id cs
 | .row _ _=>false
 | .deep .. =>false
def NT (id:Ah):DX T->DX T
 | .box cs=> .box (cs.map (Ya id))
 | x=>x
def lm (p:DV T->Bool):Tm T->Bool
 | []=>true
 | (_,_,v)::r=>match p v with
   | true=>lm p r
   | false=>false
def sk (p:DV T->Bool):List (Nat×Tm T)->Bool
 | []=>true
 | (_,tm)::r=>match lm p tm with
   | true=>sk p r
   | false=>false
def sn (q:DX T->Bool):List (DE T)->Bool
 | []=>true
 | e::r=>match q e.x with
   | true=>sn q r
   | false=>false
theorem Qs {p:DV T->Bool} (hu:p .u =true): ∀ {tm:Tm T},lm p tm=true-> ∀ i,p (lk tm i)=true
 | [],_,i=>hu
 | (s,t,v)::r,h,i=>by
   simp only [lm]at h;split at h
   ·rename_i hv;simp only [lk];cases Nat.beq s i
    ·exact Qs hu h i
    ·exact hv
   ·cases h
theorem Yb {p:DV T->Bool} (hu:p .u =true): ∀ {l:List (Nat×Tm T)},sk p l=true-> ∀ x∈l, ∀ i,p (lk x.2 i)=true
 | [],_,x,hx,_=>by cases hx
 | (m,tm)::r,h,x,hx,i=>by
   simp only [sk]at h;split at h
   ·rename_i hv;rcases mem_cons.1 hx with rfl | hx
    ·exact Qs hu hv i
    ·exact Yb hu h x hx i
   ·cases h
theorem Yc {q:DX T->Bool}: ∀ {l:List (DE T)},sn q l=true-> ∀ e∈l,q e.x=true
 | [],_,e,he=>by cases he
 | x::r,h,e,he=>by
   simp only [sn]at h;split at h
   ·rename_i hv;rcases mem_cons.1 he with rfl | he
    ·exact hv
    ·exact Yc h e he
   ·cases h
def Ag.atP (st:Ag T) (id:Ah):Bool:=lm (fun v=> !(v.E_ id)) st.tm&&(sk (fun v=> !(v.E_ id)) st.gh&&sn (fun x=> !(x.E_ id)) st.so)
def Ag.kill (st:Ag T) (id:Ah):Option (Ag T):=match C2 id||E9 id with
 | true=>none
 | false=>match st.atP id with
   | true=>some {st with so:=st.so.filter fun e=> !(Bc e.id id)}
   | false=>some (let s:=st.aet (DV.E_ id) (fun _=> .u) (DX.E_ id) (NT id);{s with so:=s.so.filter fun e=> !(Bc e.id id)})
theorem ux {id:Ah} {c:DC T} (h:c.ok):(Ya id c).ok :=by grind [Ya,DC.ok]
theorem pn (id:Ah) (c:DC T):(Ya id c).toC =HJ id c.toC:=by grind [Ya,HJ,DC.ajn,DC.toC]
theorem HS {α:Type} {F:α->α}: ∀ {l:List α},(∀ x∈l,F x=x)->l.map F=l
 | [],_=>rfl
 | a::l,h=>by rw [map_cons,h a (by simp),HS (fun x hx=>h x (by simp [hx]))]
theorem xn {F:V->V} {m:Nat} {tm:Tm T} (h: ∀ i,F (lk tm i).toV =(lk tm i).toV):(AI m tm).map F=AI m tm:=by refine HS fun x hx=>?_;obtain⟨i,_,rfl⟩:=mem_map.1 hx;exact h i
theorem Agy {F:V->V} {l:List (Nat×Tm T)} (h: ∀ x∈l, ∀ i,F (lk x.2 i).toV =(lk x.2 i).toV):(l.flatMap fun f=>AI f.1 f.2).map F=l.flatMap fun f=>AI f.1 f.2:=by refine HS fun x hx=>?_;obtain⟨y,hy,hx⟩:=List.mem_flatMap.1 hx;obtain⟨i,_,rfl⟩:=mem_map.1 hx;grind
def I3:List V->List V->Prop
 | [],[]=>True
 | x::xs,y::ys=>(y= .undef \/y=x)/\I3 xs ys
 | _,_=>False
theorem I3.refl: ∀ l:List V,I3 l l
 | []=>trivial
 | x::xs=>⟨.inr rfl,I3.refl xs⟩
theorem I3.append: ∀ {a b c d:List V},I3 a b->I3 c d->I3 (a++c) (b++d)
 | [],[],_,_,_,h=>h
 | [],_::_,_,_,h,_=>h.elim
 | _::_,[],_,_,h,_=>h.elim
 | _::_,_::_,_,_,h,k=>⟨h.1,h.2.append k⟩
theorem I3.get: ∀ {a b:List V},I3 a b->b.length=a.length/\ ∀ i,b.getD i .undef = .undef \/b.getD i .undef =a.getD i .undef
 | [],[],_=>(by grind)
 | [],_::_,h=>h.elim
 | _::_,[],h=>h.elim
 | x::xs,y::ys,h=>by
   obtain⟨h1,h2⟩:=I3.get h.2;refine⟨by simp [h1],fun i=>?_⟩;cases i with
   | zero=>simpa using h.1
   | succ i=>simpa using h2 i
theorem I3.map {α:Type} {f g:α->V}: ∀ {l:List α},(∀ x∈l,g x= .undef \/g x=f x)->I3 (l.map f) (l.map g)
 | [],_=>trivial
 | a::l,h=>⟨h a (by simp),I3.map fun x hx=>h x (by simp [hx])⟩
theorem I3.set: ∀ {a b:List V},I3 a b-> ∀ (i:Nat) (v:V),I3 (a.set i v) (b.set i v)
 | [],[],_,_,_=>trivial
 | [],_::_,h,_,_=>h.elim
 | _::_,[],h,_,_=>h.elim
 | _::_,_::_,h,0,v=>⟨.inr rfl,h.2⟩
 | _::_,_::_,h,i+1,v=>⟨h.1,h.2.set i v⟩
theorem I3.of {a b:List V} (hl:b.length=a.length) (h: ∀ i,b.getD i .undef = .undef \/b.getD i .undef =a.getD i .undef):I3 a b:=by
 induction a generalizing b with
 | nil=>
   cases b with
   | nil=>trivial
   | cons y ys=>simp at hl
 | cons x xs ih=>
   cases b with
   | nil=>simp at hl
   | cons y ys=>exact⟨by simpa using h 0,ih (by grind) (fun i=>by simpa using h (i+1))⟩
theorem CH.put {a b:St} (h:CH a b) (d:Option Nat) (v:V):CH (a.put d v) (b.put d v):=by
 cases d with
 | none=>exact h
 | some d=>
   have:=((I3.of h.len h.tm).set d v).get;exact⟨this.1,this.2,h.so,h.nd,h.gh,h.pre⟩
theorem Ej {H:Az T} {st:Ag T} (h:AK H st) (p:DE T->Bool):AK H {st with so:=st.so.filter p}:=
 ⟨h.tm,h.gh,fun e he=>h.so e (by grind),List.Sublist.nodup (by grind [List.filter_sublist]) h.nd⟩
theorem Yd (id:Ah) (hd:C2 id=false) (l:List (DE T)):(l.filter fun e=> !(Bc e.id id)).map DE.toE=(l.map DE.toE).filter (fun e=>e.id != id&& !(C2 id&&E9 e.id)):=by
 induction l with
 | nil=>rfl
 | cons e l ih=>
   simp only [List.filter_cons,map_cons,DE.toE_id,hd,Bool.false_and,Bool.not_false,Bool.and_true,CI]at ih ⊢;grind
theorem gR {id:Ah} {e:DE T} (h:e.x.E_ id=false):e.toE.fre id=true:=by grind [AB.fre,DE.toE,DX.E_,NS]
theorem po {id:Ah} {e:DE T} (t:Nat):(⟨e.id,t,NT id e.x⟩:DE T).toE =AB.kill id e.toE:=by
 unfold DE.toE;cases hxx:e.x with
 | box cs=>
   simp only [NT,AB.kill,Cz,map_map,AB.mk.injEq,and_true,true_and];grind [List.map_congr_left,pn]
 | row E l=>rfl
 | deep E n l h=>rfl
theorem lq (id:Ah) (p:Ah->Bool->Bool) (l:List AB):(l.map (AB.kill id)).filter (fun e=>e.id != id&& !(C2 id&&E9 e.id))=(l.filter (fun e=>e.id != id&& !(C2 id&&E9 e.id))).map (AB.kill id):=by induction l<;>grind [AB.X_]
theorem lr {id:Ah} {m n:Nat} {tm:Tm T}:I3 ((AI m tm).map (EZ id)) (AI m (Pt (DV.E_ id) (fun _=> .u) n tm)):=by unfold AI;rw [map_map];refine I3.map fun i _=>?_;simp only [Function.comp,Mq (p:=DV.E_ id) (f:=fun _=>DV.u) (by simp [DV.E_])];grind [DV.toV,XQ,DV.ajm]
theorem AcW {id:Ah}: ∀ (l:List (Nat×Tm T)) (n:Nat),I3 ((l.flatMap fun f=>AI f.1 f.2).map (EZ id)) ((Qq (DV.E_ id) (fun _=> .u) n l).flatMap fun f=>AI f.1 f.2)
 | [],_=>trivial
 | (m,tm)::r,n=>by simp only [Qq,flatMap_cons,map_append];exact lr.append (AcW r _)
theorem Ag.apU {H:Az T} {st d_:Ag T} {id:Ah} (h:AK H st) (hk:st.kill id=some d_):(∃ H',Nx H st H' d_)/\CH (st.toSt.kill id) d_.toSt/\d_.toSt.so=(st.toSt.kill id).so /\C2 id=false/\E9 id=false/\d_.pre=st.pre/\ ∀ e∈d_.so,e.id ≠ id:=by
 have nid: ∀ l:List (DE T), ∀ e∈l.filter (fun e=> !(Bc e.id id)),e.id ≠ id:=(by grind [AQ]);unfold Ag.kill at hk;split at hk
 ·cases hk
 ·rename_i hd;simp only [or_eq_false_iff]at hd;split at hk
  ·rename_i hn;injection hk with hk;subst hk;simp only [Ag.atP,and_eq_true]at hn;obtain⟨n1,n2,n3⟩:=hn;have k1: ∀ i,EZ id (lk st.tm i).toV =(lk st.tm i).toV :=(by grind [XQ,DV.ajm,Qs,DV.E_]);have k2: ∀ x∈st.gh, ∀ i,EZ id (lk x.2 i).toV =(lk x.2 i).toV :=fun x hx i=>(by grind [XQ,DV.ajm,Yb,DV.E_]);have e:(({st with so:=st.so.filter fun e=> !(Bc e.id id)}:Ag T)).toSt =st.toSt.kill id:=by simp only [Ag.toSt,St.kill,St.mk.injEq,and_true];refine⟨(xn k1).symm,?_,(Agy k2).symm⟩;rw [Yd id hd.1];refine(HS fun e he=>?_).symm;obtain⟨x,hx,rfl⟩:=mem_map.1 (List.mem_filter.1 he).1;grind [Yc,AB.agS,gR]
   exact⟨⟨H,C4.refl _ _,le_refl _,Ej h _⟩,e▸CH.refl _,by rw [e],hd.1,hd.2,rfl,nid _⟩
  ·injection hk with hk;subst hk;obtain⟨H',hN⟩:=Ag.aeP (p:=DV.E_ id) (f:=fun _=> .u) (q:=DX.E_ id) (g:=NT id) h (fun _=>by simp only [DV.ok]) (fun {x} hx=>by
    cases x with
    | box cs=>
      simp only [NT,DX.ok]at hx ⊢;refine C6.2 fun c hc=>?_;obtain⟨d,h1,rfl⟩:=mem_map.1 hc;grind [ux,C6]
    | row E l=>exact hx
    | deep E n l h=>exact hx)
   have hso:(((Qr (DX.E_ id) (NT id) (st.nx+st.tm.length+M7 st.gh) st.so).filter fun e=> !(Bc e.id id)).map DE.toE)=(st.toSt.kill id).so :=by rw [Yd id hd.1,NR (F:=AB.kill id) _ (fun e _=>⟨fun _ t=>po t,fun hm=>AB.agS (gR hm)⟩)];exact lq id (fun _ _=>true) _
   refine⟨⟨H',hN.ext,hN.le,Ej hN.ok _⟩,?_,hso,hd.1,hd.2,rfl,nid _⟩;have a:=(lr (id:=id) (m:=st.m) (n:=st.nx) (tm:=st.tm)).get;have b:=(AcW (id:=id) st.gh (st.nx+st.tm.length)).get;exact⟨a.1,a.2,fun e he=>by rw [<-hso];exact he,fun hn=>by have:(Ag.toSt {(st.aet (DV.E_ id) (fun _=> .u) (DX.E_ id) (NT id))with so:=(st.aet (DV.E_ id) (fun _=> .u) (DX.E_ id) (NT id)).so.filter fun e=> !(Bc e.id id)}).so =(st.toSt.kill id).so :=hso;grind,b,rfl⟩
def Ag.new (st:Ag T) (id:Ah) (x:DX T):Option (Ag T):=match st.kill id,x.E_ id with
 | some s,false=>some {s with so:=⟨id,s.nx,x⟩::s.so,nx:=s.nx+1}
 | _,_=>none
theorem Ag.acW {H:Az T} {st d_:Ag T} {id:Ah} {x:DX T} (h:AK H st) (hx:x.ok) (hk:st.new id x=some d_):(∃ H',Nx H st H' d_)/\CH (st.toSt.new (⟨id,0,x⟩:DE T).toE) d_.toSt/\d_.pre=st.pre:=by
 unfold Ag.new at hk;split at hk
 ·rename_i s hs hm;injection hk with hk;subst hk;obtain⟨⟨H',hN⟩,h2,h2',h3,h4,h5,h6⟩:=Ag.apU h hs;have he:=C4.aar H' s.nx ⟨id,s.nx,x⟩;refine⟨⟨H'.aar s.nx ⟨id,s.nx,x⟩,hN.trans ⟨he,le_succ _,?_,?_,?_,?_⟩⟩,?_,h5⟩
  ·exact BT he (le_succ _) hN.ok.tm
  ·exact fun f hf=>BT he (le_succ _) (hN.ok.gh f hf)
  ·intro e hm';rcases mem_cons.1 hm' with rfl | hm'
   ·simp_all [Az.aar]
   ·exact Fj he (le_succ _) hN.ok.so e hm'
  ·rw [map_cons];refine nodup_cons.2 ⟨fun hm'=>?_,hN.ok.nd⟩;grind
  ·have e1:(⟨id,0,x⟩:DE T).toE.id =id:=DE.toE_id _;have e2:(⟨id,s.nx,x⟩:DE T).toE =(⟨id,0,x⟩:DE T).toE :=rfl;have e3:AB.kill id (⟨id,0,x⟩:DE T).toE =(⟨id,0,x⟩:DE T).toE :=AB.agS (gR hm);have e5:(st.toSt.new (⟨id,0,x⟩:DE T).toE).so =(⟨id,0,x⟩:DE T).toE ::s.toSt.so:=by grind [St.new,US]
   have e6:(Ag.toSt {s with so:=⟨id,s.nx,x⟩::s.so,nx:=s.nx+1}).so =(⟨id,0,x⟩:DE T).toE ::s.toSt.so:=rfl;have hl:=h2;rw [show (st.toSt.kill id)=st.toSt.kill (⟨id,0,x⟩:DE T).toE.id by rw [e1]]at hl;exact⟨hl.len,hl.tm,(by grind),(by grind),hl.gh,by show s.pre=st.pre;exact h5⟩
 ·cases hk
end Go.PL
namespace Go.PL
open Go Go.RowKit
variable {T:Bl}
def M8 (id:Ah) (E:Nat) (l:List (T.den E)) (c:DC T):DC T:=match c.E_ id with
 | false=>c
 | true=>match c with
   | .c (.n_ _)=> .k (.u_ E) l
   | _=> .c .any
mutual
def Ek (id:Ah) (E:Nat) (l:List (T.den E)):DV T->DV T
 | .c x=> .c (M8 id E l x)
 | .agg cs=> .agg (cs.map (M8 id E l))
 | .tup vs=> .tup (JD id E l vs)
 | .g k v=> .g k (Ek id E l v)
 | .u => .u
def JD (id:Ah) (E:Nat) (l:List (T.den E)):List (DV T)->List (DV T)
 | []=>[]
 | v::vs=>Ek id E l v::JD id E l vs
end
def eu (id:Ah) (E:Nat) (l:List (T.den E)):DX T->DX T
 | .box cs=> .box (cs.map (M8 id E l))
 | x=>x
def Ag.frz (st:Ag T) (id:Ah):Option (Ag T):=match DA st id with
 | some ⟨E,l⟩=>some (let s:=st.aet (DV.E_ id) (Ek id E l) (DX.E_ id) (eu id E l);{s with so:=s.so.filter fun e=> !(Bc e.id id)})
 | none=>none
section
variable {id:Ah} {E:Nat} {l:List (T.den E)}
theorem ew (c:DC T):(M8 id E l c).toC =Ka id l.length (l.flatMap (T.enc E)) c.toC:=by
 unfold M8;cases hm:c.E_ id with
 | false=>
   rw [DC.ajn]at hm;simp only;cases hc:c.toC<;>rw [hc]at hm<;>simp only [C.E_,beq_eq_false_iff_ne,ne_eq]at hm<;>simp only [Ka]<;>first
    | grind
    | grind
    | rfl
 | true=>
   have hm':=hm;rw [DC.ajn]at hm';simp only;split
   ·simp_all [DC.E_,AaJ,AQ,DC.toC,Bk,Ka]
   ·rename_i hne;have: ∀ i,c.toC ≠ .n_ i:=fun i he=>by
     cases c with
     | c x=>simp only [DC.toC]at he;simp_all
     | k kd x=>cases kd<;>simp [DC.toC,Bk]at he
     | ip=>simp [DC.toC]at he
     | rp=>simp [DC.toC]at he
     | ap=>simp [DC.toC]at he
     | bs=>simp [DC.toC]at he
     | clo b f cs=>cases b<;>simp [DC.toC]at he
    cases hc:c.toC<;>rw [hc]at hm' this<;>simp only [C.E_,beq_iff_eq,Bool.false_eq_true]at hm'<;>simp only [Ka,DC.toC]<;>first
     | grind
     | grind
theorem Ye {c:DC T} (h:c.ok):(M8 id E l c).ok :=by unfold M8;grind [DC.ok]
theorem Yf (cs:List (DC T)):Ax (cs.map (M8 id E l))=(Ax cs).map (Ka id l.length (l.flatMap (T.enc E))):=by grind [Cz,List.map_congr_left,ew]
mutual
theorem TP: ∀ v:DV T,(Ek id E l v).toV =Lz id l.length (l.flatMap (T.enc E)) v.toV
 | .c x=>by simp only [Ek,DV.toV,Lz,ew]
 | .agg cs=>by simp only [Ek,DV.toV,Lz,Yf]
 | .tup vs=>by simp only [Ek,DV.toV,Lz,Yg vs]
 | .g k v=>by simp only [Ek,DV.toV,Lz,TP v]
 | .u =>by simp only [Ek,DV.toV,Lz]
theorem Yg: ∀ vs:List (DV T),Be (JD id E l vs)=M6 id l.length (l.flatMap (T.enc E)) (Be vs)
 | []=>by simp only [JD,Be,M6]
 | v::vs=>by simp only [JD,Be,M6,TP v,Yg vs]
end
theorem Yh: ∀ {cs:List (DC T)},Rv id cs=false->cs.map (M8 id E l)=cs
 | [],_=>rfl
 | c::cs,h=>by
   simp only [Rv]at h;split at h
   ·cases h
   ·rename_i hc;have:M8 id E l c=c:=by unfold M8;simp only [hc]
    rw [map_cons,Yh h,this]
mutual
theorem Yi: ∀ v:DV T,v.E_ id=false->Ek id E l v=v
 | .c x,h=>by simp_all [DV.E_,Ek,M8]
 | .agg cs,h=>by grind [DV.E_,Ek,Yh]
 | .tup vs,h=>by simp only [DV.E_]at h;simp only [Ek,ey vs h]
 | .g k v,h=>by simp only [DV.E_]at h;simp only [Ek,Yi v h]
 | .u,_=>by simp only [Ek]
theorem ey: ∀ vs:List (DV T),ep id vs=false->JD id E l vs=vs
 | [],_=>by simp only [JD]
 | v::vs,h=>by
   simp only [ep]at h;split at h
   ·cases h
   ·rename_i hv;simp only [JD,Yi v hv,ey vs h]
end
theorem Rx {f:DC T->DC T} (hf: ∀ c,c.ok->(f c).ok) {cs:List (DC T)} (h:B3 cs):B3 (cs.map f):=C6.2 fun c hc=>by obtain⟨d,h1,rfl⟩:=mem_map.1 hc;grind [C6]
mutual
theorem Yj {H:Az T} {n:Nat}: ∀ {v:DV T},v.ok H n->(Ek id E l v).ok H n
 | .c x,h=>by grind [DV.ok,Ek,Ye]
 | .agg cs,h=>by grind [DV.ok,Ek,Rx,Ye]
 | .tup vs,h=>by simp only [DV.ok,Ek]at h ⊢;exact ez h
 | .g k v,h=>by simp only [DV.ok,Ek]at h ⊢;exact⟨h.1,fun q=>Yj (h.2 q)⟩
 | .u,_=>by simp only [DV.ok,Ek]
theorem ez {H:Az T} {n:Nat}: ∀ {vs:List (DV T)},CL H n vs->CL H n (JD id E l vs)
 | [],_=>by simp only [CL,JD]
 | v::vs,h=>by simp only [CL,JD]at h ⊢;exact⟨Yj h.1,ez h.2⟩
end
theorem eA {e:DE T} (t:Nat):(⟨e.id,t,eu id E l e.x⟩:DE T).toE =AB.frz id l.length (l.flatMap (T.enc E)) e.toE:=by grind [DE.toE,eu,AB.frz,Yf]
theorem xo {e:DE T} (h:e.x.E_ id=false):AB.frz id l.length (l.flatMap (T.enc E)) e.toE=e.toE:=by rw [<-eA e.tag];grind [DX.E_,eu,Yh,DE.toE]
theorem pq (id:Ah) (n:Nat) (cs:List C) (l:List AB):(l.map (AB.frz id n cs)).filter (fun e=>e.id != id)=(l.filter (fun e=>e.id != id)).map (AB.frz id n cs):=by induction l<;>grind [AB.aml]
theorem aid (id:Ah) (l:List (DE T)):(l.filter fun e=> !(Bc e.id id)).map DE.toE=(l.map DE.toE).filter (fun e=>e.id != id):=by induction l<;>grind [DE.toE_id,CI]
end
theorem Ag.ag2 {H:Az T} {st d_:Ag T} {id:Ah} (h:AK H st) (hk:st.frz id=some d_):(∃ H',Nx H st H' d_)/\d_.toSt=st.toSt.freeze id/\st.toSt.acU id=true/\d_.pre=st.pre:=by
 unfold Ag.frz at hk;split at hk
 ·rename_i E l hr;injection hk with hk;subst hk;obtain⟨hl,_,_⟩:=BK hr;obtain⟨H',hN⟩:=Ag.aeP (p:=DV.E_ id) (f:=Ek id E l) (q:=DX.E_ id) (g:=eu id E l) h Yj (fun {x} hx=>by cases x<;>grind [eu,DX.ok,Rx,Ye])
  refine⟨⟨H',hN.ext,hN.le,Ej hN.ok _⟩,?_,by simp only [St.acU,hl],rfl⟩;have F1: ∀ tm:Tm T, ∀ i,(DV.E_ id (lk tm i)=true->(Ek id E l (lk tm i)).toV =Lz id l.length (l.flatMap (T.enc E)) (lk tm i).toV)/\(DV.E_ id (lk tm i)=false->Lz id l.length (l.flatMap (T.enc E)) (lk tm i).toV =(lk tm i).toV):=fun tm i=>
   (by grind [TP,Yi])
  have fm: ∀ l':List V,M6 id l.length (l.flatMap (T.enc E)) l'=l'.map (Lz id l.length (l.flatMap (T.enc E))):=by intro l';induction l'<;>grind [M6]
  unfold St.freeze;rw [hl];simp only [Bool.not_true,Bool.false_eq_true,if_false,Ag.toSt,Ag.aet,St.mk.injEq,and_true,fm];refine⟨(by grind [li,DV.E_]),?_,(by grind [lj,DV.E_])⟩;rw [aid,NR (F:=AB.frz id l.length (l.flatMap (T.enc E))) _ (fun e _=>⟨fun _ t=>eA t,fun hm=>xo hm⟩)];exact pq _ _ _ _
 ·cases hk
def TQ (id:Ah) (t:Nat) (x:DX T):List (DE T)->List (DE T)
 | []=>[]
 | e::r=>match Bc e.id id with
   | true=>⟨e.id,t,x⟩::r
   | false=>e::TQ id t x r
def Ag.abT (st:Ag T) (id:Ah) (x:DX T):Ag T:={st with so:=TQ id st.nx x st.so,nx:=st.nx+1}
theorem Yk (id:Ah) (t:Nat) (x:DX T): ∀ l:List (DE T),(TQ id t x l).map DE.id=l.map DE.id
 | []=>rfl
 | e::r=>by unfold TQ;split<;>simp [Yk id t x r]
theorem Ym {id:Ah} {t:Nat} {x:DX T} {F:AB->AB} (hF: ∀ a:AB,a.id ≠ id->F a=a): ∀ {l:List (DE T)} {e:DE T},(l.map DE.id).Nodup ->e∈l->e.id=id->F e.toE=(⟨id,t,x⟩:DE T).toE ->(l.map DE.toE).map F=(TQ id t x l).map DE.toE
 | [],_,_,h,_,_=>by cases h
 | a::r,e,hn,hm,he,hf=>by
   rw [map_cons]at hn;obtain⟨n1,n2⟩:=nodup_cons.1 hn;unfold TQ;split
   ·rename_i hb;have hb:=AQ.1 hb;have hae:a=e:=by grind
    subst hae;simp only [map_cons,hf];rw [<-hb];congr 1;refine HS fun y hy=>?_;obtain⟨z,hz,rfl⟩:=mem_map.1 hy;grind [DE.toE_id]
   ·rename_i hb;have hne:a.id ≠ id:=fun q=>by rw [AQ.2 q]at hb;cases hb
    have hm':e∈r:=by
     rcases mem_cons.1 hm with q | q
     ·subst q;exact absurd he hne
     ·exact q
    simp only [map_cons,Ym hF n2 hm' he hf];rw [hF _ (by rw [DE.toE_id];exact hne)]
theorem Ag.abP {H:Az T} {st:Ag T} (h:AK H st) (id:Ah) {x:DX T} (hx:x.ok): ∃ H',Nx H st H' (st.abT id x):=by
 by_cases hid: ∃ e∈st.so,e.id=id
 ·obtain⟨e0,_,he0⟩:=hid;have he:=C4.aar H st.nx ⟨id,st.nx,x⟩;refine⟨H.aar st.nx ⟨id,st.nx,x⟩,he,le_succ _,BT he (le_succ _) h.tm,fun f hf=>BT he (le_succ _) (h.gh f hf),?_,by simp only [Ag.abT,Yk];exact h.nd⟩;have key: ∀ l:List (DE T),(∀ e∈l,e.tag<st.nx/\H.e e.tag=e/\e.x.ok)-> ∀ e∈TQ id st.nx x l,e.tag<st.nx+1/\(H.aar st.nx ⟨id,st.nx,x⟩).e e.tag=e/\e.x.ok:=by
   intro l;induction l with
   | nil=>intro _ e hm;cases hm
   | cons a r ih=>
     intro hl e hm;unfold TQ at hm;split at hm
     ·rename_i hb;have hb:=AQ.1 hb;rcases mem_cons.1 hm with rfl | hm
      ·simp_all [Az.aar]
      ·exact Fj he (le_succ _) hl e (by simp [hm])
     ·rcases mem_cons.1 hm with rfl | hm
      ·exact Fj he (le_succ _) hl e (by simp)
      simp_all
  exact key st.so h.so
 ·have: ∀ l:List (DE T),(∀ e∈l,e.id ≠ id)->TQ id st.nx x l=l:=by intro l;induction l<;>grind [TQ,AQ]
  have hs:TQ id st.nx x st.so=st.so:=(by grind);exact⟨H,C4.refl _ _,le_succ _,BT (C4.refl _ _) (le_succ _) h.tm,fun f hf=>BT (C4.refl _ _) (le_succ _) (h.gh f hf),by simp only [Ag.abT,hs];exact Fj (C4.refl _ _) (le_succ _) h.so,by simp only [Ag.abT,hs];exact h.nd⟩
theorem Ag.afM {H:Az T} {st:Ag T} (h:AK H st) {id:Ah} {x:DX T} {e:DE T} (hm:e∈st.so) (he:e.id=id) {cs:List C} {q:Bool} (hx:(⟨id,e.toE.row,cs,e.toE.pu&&q⟩:AB)=(⟨id,st.nx,x⟩:DE T).toE):(st.abT id x).toSt =st.toSt.adH id cs q:=by have:=Ym (t:=st.nx) (x:=x) (F:=fun e=>if e.id==id then⟨e.id,e.row,cs,e.pu&&q⟩else e) (by grind) h.nd hm he (by grind [DE.toE_id]);simp_all [Ag.toSt,Ag.abT,St.adH]
end Go.PL
namespace Go.PL
open Go Go.RowKit
variable {T:Bl}
def lu:Operand->DV T->DV T
 | .const (.slice none 0 0),_=> .c (.c .Tv)
 | _,v=>v
def pt:DV T->DV T
 | .c (.c .Tv)=> .c (.c (.sl 0 []))
 | v=>v
def Vn {α:Type} (i:Nat) (x:α):Nat->List α->List α
 | _,[]=>[]
 | j,a::r=>(if i=j then x else a)::Vn i x (j+1) r
theorem ly {α:Type} {i:Nat} {x:α}: ∀ (l:List α) (j:Nat),j<=i->Vn i x j l=l.set (i - j) x
 | [],_,_=>rfl
 | a::r,j,h=>by
   unfold Vn;by_cases hj:i=j
   ·subst hj;simp only [if_true,Nat.sub_self,List.set_cons_zero,List.cons.injEq,true_and];have: ∀ (r:List α) (k:Nat),i<k->Vn i x k r=r:=by
     intro r;induction r with
     | nil=>intro _ _;rfl
     | cons b r ih=>intro k hk;rw [Vn,if_neg (by omega),ih _ (by omega)]
    grind
   ·rw [if_neg hj,ly r (j+1) (by omega),show i - j=(i - (j+1))+1 by omega,List.set_cons_succ]
def NU (E:Nat):List (T.den E)->List (DC T)
 | []=>[]
 | x::l=>gP E x++NU E l
theorem Vo (E:Nat): ∀ l:List (T.den E),Ax (NU E l)=l.flatMap (T.enc E)
 | []=>by simp [NU,Ax]
 | x::l=>by rw [NU,CF,Gj,Vo E l,flatMap_cons]
theorem eC (E:Nat): ∀ l:List (T.den E),B3 (NU E l)
 | []=>by simp [NU,B3]
 | x::l=>C7 (Mp E x) (eC E l)
def AaL (E:Nat) (x:T.den E) (off:Nat) (cs:List (DC T)):Option (T.den E):=match Nat.ble (off+cs.length) (T.sz E)with
 | true=>wj false E ((gP E x).take off++(cs++(gP E x).drop (off+cs.length)))
 | false=>none
def pv (P:Program) (t:TypeId) (d:Option Nat) (st:Ag T) (p v:DV T):M (Ag T):=
 match KO P t with
 | none=> .no
 | some (_,n)=>match p with
   | .c (.c (.ptr id off))=>match Jy st id,v.cells with
     | some ds,some cs=>mIf (Nat.beq cs.length n&&Nat.ble (off+n) ds.length) (.ret ((st.abT id (.box (ds.take off++(cs++ds.drop (off+n))))).put d .u))
     | _,_=> .no
   | .c (.rp id N i off)=>match DA st id,(pt v).cells with
     | some ⟨E,l⟩,some cs=>mIf (Nat.beq N (T.sz E)&&Nat.beq cs.length n) (.opt (idx l i) fun x=>match AaL E x off cs with
       | some x'=> .ret ((st.abT id (.row E (l.set i.toNat x'))).put d .u)
       | none=> .no)
     | _,_=> .no
   | .c (.ap id base m E i off)=>match Jy st id,v.cells with
     | some ds,some cs=>match KV E m (ds.drop base)with
       | some l=>mIf (Nat.beq cs.length n&&Nat.ble (base+m*T.sz E) ds.length) (.opt (idx l i) fun x=>match AaL E x off cs with
         | some x'=> .ret ((st.abT id (.box (ds.take base++(NU E (Vn i.toNat x' 0 l)++ds.drop (base+m*T.sz E))))).put d .u)
         | none=> .no)
       | none=> .no
     | _,_=> .no
   | _=> .no
def JE (st:Ag T) (d:Nat) (x:DX T) (v:Ah->DC T):M (Ag T):=match st.new (d::st.pre) x with
 | some s=> .ret (s.put (some d) (.c (v (d::st.pre))))
 | none=> .no
def Qt (P:Program) (t:TypeId):Option (List (DC T)):=
 match P.info? t with
 | some i=>match i.zero with
   | some z=>Jx z.cells.toList
   | none=>none
 | none=>none
def Yn:DC T->DC T
 | .c .Tv => .c (.sl 0 [])
 | c=>c
def TR:DV T->DV T
 | .c x=> .c (Yn x)
 | .agg cs=> .agg (cs.map Yn)
 | v=>v
def NV (P:Program) (st:Ag T) (d:Nat) (t:TypeId) (len:Nat) (ps:List (Nat×Operand)):M (Ag T):=
 match Ed P t,Hc st [] ps with
 | some (E,n,_),some vs=>match Qt P E with
   | some z=>match Vm (fun i=>some (i*n,n)) ((List.replicate len z).flatMap id) (vs.map fun x=>(x.1,TR x.2))with
     | some cs=>match KV E len cs with
       | some l=>mIf (Nat.beq n (T.sz E)&&(Nat.beq z.length n&&(Nat.blt 0 n&&(Nat.ble (len*n) (2 ^ 24)&&Nat.beq cs.length (len*n))))) (JE st d (.row E l) fun i=> .c (.n_ i))
       | none=> .no
     | none=> .no
   | none=> .no
 | _,_=> .no
def Qu (P:Program) (st:Ag T) (d:Nat) (t:TypeId) (l c:Int):M (Ag T):=
 match Ed P t with
 | some (E,n,by')=>match Qt P E with
   | some z=>match wj false E z with
     | some x=>mIf (Nat.beq n (T.sz E)&&(Nat.beq z.length n&&Nat.blt 0 n)) (.opt (A1 (0<=l/\l<=c/\c*by'<=140737488355328/\c<=maxLen)) fun _=>JE st d (.row E (List.replicate l.toNat x)) fun i=> .c (.n_ i))
     | none=> .no
   | none=> .no
 | none=> .no
def Kp:DC T->Option Ah
 | .c (.n_ id)=>some id
 | _=>none
theorem El {c:DC T} {id:Ah} (h:Kp c=some id):c= .c (.n_ id):=by unfold Kp at h;grind
def AdY (st:Ag T) (E:Nat):DV T->Option (List (T.den E))
 | .c x=>match Kp x with
   | some id=>match DA st id with
     | some ⟨E',l⟩=>HN false (.u_ E) (.k (.u_ E') l)
     | none=>none
   | none=>HN false (.u_ E) x
 | _=>none
def gS (P:Program) (st:Ag T) (d:Nat) (t:TypeId) (u x:DV T):M (Ag T):=
 match u,Ed P t with
 | .c (.c (.n_ id)),some (E',n,by')=>match DA st id with
   | some ⟨E,l⟩=>match AdY st E x with
     | some m=>mIf (Nat.beq E' E&&(Nat.beq n (T.sz E)&&Nat.blt 0 n)) (.opt (app by' l m) fun r=>match st.new id (.row E r)with
       | some s=> .ret (s.put (some d) (.c (.c (.n_ id))))
       | none=> .no)
     | none=> .no
   | none=> .no
 | _,_=> .no
def uy (P:Program) (st:Ag T) (o:Oper):M (Ag T):=
 match o.op with
 | .store t x y=>match st.arg [] x,st.arg [] y with
   | some p,some v=>pv P t o.dst st p (lu y v)
   | _,_=> .no
 | op=>match o.dst with
   | none=> .no
   | some d=>match op with
     | .alloc t=>match X9 P t with
       | some cs=>JE st d (.box cs) fun i=> .c (.ptr i 0)
       | none=> .no
     | .box _ x=>match st.arg [] x with
       | some v=>match v.cells with
         | some cs=>JE st d (.box cs) fun i=> .c (.ptr i 0)
         | none=> .no
       | none=> .no
     | .assign (.const (.slice none 0 0))=>match Dj P o.type with
       | some (E,n)=>mIf (Nat.beq n (T.sz E)) (JE st d (.row E []) fun i=> .c (.n_ i))
       | none=> .no
     | .buildSlice t len ps=>NV P st d t len ps.toList
     | .makeSlice t l c=>match st.arg [] l,st.arg [] c with
       | some (.c (.k (.int _) l)),some (.c (.k (.int _) c))=>Qu P st d t l c
       | _,_=> .no
     | .call c=>match c.callee,c.args.toList,c.argTypes.toList with
       | .builtin .append,[u,x],[t,t']=>match st.arg [] u,st.arg [] x with
         | some a,some b=>mIf (Nat.beq t t') (gS P st d t a b)
         | _,_=> .no
       | _,_,_=> .no
     | _=> .no
def Ef (H:Az T) (P:Program) (st:Ag T) (o:Oper) (d_:Ag T):Prop:=
 (∃ H',Nx H st H' d_)/\(ef P st.toSt o).1/\CH (ef P st.toSt o).2 d_.toSt/\d_.pre=st.pre
section
variable {H:Az T} {P:Program} {st:Ag T}
theorem Ag.Th {H:Az T} {st s:Ag T} {H1:Az T} (h:Nx H st H1 s) (d:Option Nat) {v:DV T} (hv:v.ok H1 s.nx): ∃ H',Nx H st H' (s.put d v):=by obtain⟨H2,h2⟩:=Ag.aaL h.ok d hv;exact⟨H2,h.trans h2⟩
theorem AW (s:Ag T) (d:Option Nat) (v:DV T):(s.put d v).pre =s.pre:=by cases d<;>rfl
theorem HT {d:Nat} {x:DX T} {v:Ah->DC T} (hw:AK H st) (hx:x.ok) (hv: ∀ i,(v i).ok):
 Yl (JE st d x v) (fun d_=>(∃ H',Nx H st H' d_)/\CH ((st.toSt.new (⟨d::st.pre,0,x⟩:DE T).toE).put (some d) (.c (v (d::st.pre)).toC)) d_.toSt/\d_.pre=st.pre):=by
 unfold JE;split
 ·rename_i s hs;obtain⟨⟨H',hN⟩,h2,h3⟩:=Ag.acW hw hx hs;refine Yl.ret ⟨Ag.Th hN _ (by grind [DV.ok]),?_,by rw [AW];exact h3⟩;rw [Ag.r_];exact h2.put _ _
 ·exact Yl.no
theorem lA {v:DV T} {id:Ah} {off:Nat} {e:AB} (he:st.toSt.look id=some e) (hr:e.row.isSome=true):V5 st.toSt (.c (.ptr id off)) v.toV=(pt v).toV :=by
 unfold pt;split
 ·grind [DV.toV,DC.toC,V5]
 ·rename_i hne;unfold V5;split
  ·rename_i hv;exfalso;cases v with
   | c x=>
     cases x with
     | c y=>
       simp only [DV.toV,DC.toC,V.c.injEq]at hv;grind
     | k kd x=>cases kd<;>simp [DV.toV,DC.toC,Bk]at hv
     | clo b f cs=>cases b<;>simp [DV.toV,DC.toC]at hv
     | _=>simp [DV.toV,DC.toC]at hv
   | _=>simp [DV.toV]at hv
  ·rfl
theorem lB {v:V} {id:Ah} {off:Nat} {e:AB} (he:st.toSt.look id=some e) (hr:e.row=none):V5 st.toSt (.c (.ptr id off)) v=v:=by grind [V5]
theorem eD {E:Nat} {x x':T.den E} {off:Nat} {cs:List (DC T)} (h:AaL E x off cs=some x'):off+cs.length<=T.sz E/\(T.enc E x).take off++(Ax cs++(T.enc E x).drop (off+(Ax cs).length))=T.enc E x':=by
 unfold AaL at h;split at h
 ·rename_i hb;refine⟨by simp_all,?_⟩;rw [<-(HO h).2 rfl,CF,CF,I1,FT,Gj,AP]
 ·cases h
theorem pw {l:List C} {a b c:List C} (h:a++(b++c)=l) (hl:Au l=true):Au b=true:=by subst h;simp_all [BR]
theorem uz (hw:AK H st) {t:TypeId} {d:Option Nat} {p v:DV T} (hv:v.ok H st.nx):
 Yl (pv P t d st p v) (fun d_=>(∃ H',Nx H st H' d_)/\(G4 P st.toSt t p.toV (V5 st.toSt p.toV v.toV)).1/\(G4 P st.toSt t p.toV (V5 st.toSt p.toV v.toV)).2.put d .undef =d_.toSt/\d_.pre=st.pre):=by
 unfold pv;split
 ·exact Yl.no
 ·rename_i ag n ht;split
  ·rename_i id off;split
   ·rename_i ds cs hb hc;refine Yl.mIf fun hg=>Yl.ret ?_;simp only [and_eq_true,beq_eq,ble_eq]at hg;obtain⟨hl,_,e,h1,h2,h3⟩:=Hb hb;obtain⟨c1,c2⟩:=DV.adz hc;have hds:=Rr hw hb;have hok:(DX.box (ds.take off++(cs++ds.drop (off+n)))).ok :=C7 (TK hds _) (C7 (c2 hv) (TL hds _));obtain⟨H1,hN⟩:=Ag.abP hw id hok;refine⟨Ag.Th hN _ (by simp only [DV.ok]),?_⟩;simp only [DV.toV,DC.toC];rw [lB hl rfl];simp only [G4,c1,ht,hl];refine⟨(by grind [AP]),?_,by rw [AW];rfl⟩;rw [Ag.r_,Ag.afM hw h1 h2 (cs:=(Ax ds).take off++Ax cs++(Ax ds).drop (off+(Ax cs).length)) (q:=Au (Ax cs))]
    ·simp only [DV.toV]
    ·rw [DE.toE_box h3];simp only [DE.toE,AB.mk.injEq,Bool.false_and,and_true,true_and];grind [CF,I1,FT,AP]
   ·exact Yl.no
  ·rename_i id N i off;split
   ·rename_i E l cs hr hc;refine Yl.mIf fun hg=>Yl.opt fun x hx=>?_;simp only [and_eq_true,beq_eq]at hg;obtain⟨hN,hcs⟩:=hg;subst hN;split
    ·rename_i x' hp;obtain⟨p1,p2⟩:=eD hp;obtain⟨hl,_,e,h1,h2,h3⟩:=BK hr;obtain⟨c1,c2⟩:=DV.adz hc;obtain⟨s1,s2⟩:=wQ (l:=l) (l':=l.set i.toNat x') (i:=i) (x:=x) (x':=x') (e:=T.enc E) (N:=T.sz E) (o:=off) (base:=0) (cs:=Ax cs) (pre:=[]) (post:=[]) (off:=i.toNat*T.sz E+off) (c0:=l.flatMap (T.enc E)) (c1:=(l.set i.toNat x').flatMap (T.enc E)) (by simp) rfl (by simp) rfl hx (fun y=>AV E y) (by omega) (by rw [AP];exact p1) p2;obtain⟨H1,hN⟩:=Ag.abP hw id (x:= .row E (l.set i.toNat x')) trivial;refine Yl.ret ⟨Ag.Th hN _ (by simp only [DV.ok]),?_⟩;simp only [DV.toV,DC.toC];rw [lA hl rfl];simp only [G4,c1,ht,hl];refine⟨(by grind [AP]),?_,by rw [AW];rfl⟩;rw [s2,Ag.r_,Ag.afM hw h1 h2 (cs:=(l.set i.toNat x').flatMap (T.enc E)) (q:=Au (Ax cs))]
     ·simp only [DV.toV]
     grind [pw,X1,DE.toE]
    ·exact Yl.no
   ·exact Yl.no
  ·rename_i id base m E i off;split
   ·rename_i ds cs hb hc;split
    ·rename_i l hdr;refine Yl.mIf fun hg=>Yl.opt fun x hx=>?_;simp only [and_eq_true,beq_eq,ble_eq]at hg;split
     ·rename_i x' hp;obtain⟨p1,p2⟩:=eD hp;obtain⟨hl,_,e,h1,h2,h3⟩:=Hb hb;obtain⟨c1,c2⟩:=DV.adz hc;obtain⟨hlen,r,hr⟩:=Eh hdr;rw [FT]at hr;have hfl:(l.flatMap (T.enc E)).length =m*T.sz E:=by grind [Dp,AV]
      have aHA:r=(Ax ds).drop (base+m*T.sz E):=by grind [List.drop_drop,List.drop_left]
      have hs:Vn i.toNat x' 0 l=l.set i.toNat x':=by simp_all [ly]
      have hle:base<=(Ax ds).length :=by rw [AP];omega
      obtain⟨s1,s2⟩:=wQ (l:=l) (l':=l.set i.toNat x') (i:=i) (x:=x) (x':=x') (e:=T.enc E) (N:=T.sz E) (o:=off) (base:=base) (cs:=Ax cs) (pre:=(Ax ds).take base) (post:=r) (off:=base+i.toNat*T.sz E+off) (c0:=Ax ds) (c1:=(Ax ds).take base++((l.set i.toNat x').flatMap (T.enc E)++r))
       (by grind [take_append_drop]) (by grind) rfl rfl hx (fun y=>AV E y) (by omega) (by rw [AP];exact p1) p2
      have hds:=Rr hw hb;have hok:(DX.box (ds.take base++(NU E (Vn i.toNat x' 0 l)++ds.drop (base+m*T.sz E)))).ok :=C7 (TK hds _) (C7 (eC _ _) (TL hds _));obtain⟨H1,hN⟩:=Ag.abP hw id hok;refine Yl.ret ⟨Ag.Th hN _ (by simp only [DV.ok]),?_⟩;simp only [DV.toV,DC.toC];rw [lB hl rfl];simp only [G4,c1,ht,hl];refine⟨(by grind [AP]),?_,by rw [AW];rfl⟩;rw [s2,Ag.r_,Ag.afM hw h1 h2 (cs:=(Ax ds).take base++((l.set i.toNat x').flatMap (T.enc E)++r)) (q:=Au (Ax cs))]
      ·simp only [DV.toV]
      ·rw [DE.toE_box h3];simp only [DE.toE,AB.mk.injEq,Bool.false_and,and_true,true_and];grind [CF,I1,FT,Vo]
     ·exact Yl.no
    ·exact Yl.no
   ·exact Yl.no
  ·exact Yl.no
end
end Go.PL
namespace Go.PL
open Go Go.RowKit
variable {T:Bl}
section
variable {H:Az T} {P:Program} {st:Ag T}
theorem Hd (hw:AK H st) {x:Operand} {v:DV T} (h:st.arg [] x=some v):v.ok H st.nx/\(st.toSt.arg true x).1/\(st.toSt.arg true x).2=v.toV:=
 Ag.afA (key:=[]) hw (fun _ hl=>by cases hl) h rfl
theorem HU {t:TypeId} {cs:List (DC T)} (h:Qt P t=some cs):PD P t=some (Ax cs)/\B3 cs:=by grind [Qt,PD,NO]
theorem Ry {α:Type} (f:α->List (DC T)): ∀ l:List α,Ax (l.flatMap f)=l.flatMap (fun x=>Ax (f x))
 | []=>by simp [Ax]
 | a::l=>by rw [flatMap_cons,CF,Ry f l,flatMap_cons]
theorem Qv (z:List (DC T)) (hz:0<z.length) (n:Nat):Ax ((List.replicate n z).flatMap id)=Ca (Ax z) n:=by rw [Ry,d7 (fun x:List (DC T)=>Ax x) z rfl (by rw [AP];exact hz)];rfl
theorem Yo (c:DC T):(Yn c).toC =GO c.toC:=by
 unfold Yn;split
 ·rfl
 ·rename_i hne;cases c with
  | c x=>
    cases x with
    | Tv=>grind
    | _=>rfl
  | k kd x=>cases kd<;>rfl
  | clo b f cs=>cases b<;>simp [DC.toC,GO]
  | _=>simp [DC.toC,GO]
theorem px (v:DV T):(TR v).toV =v.toV.agz:=by cases v<;>simp_all [TR,DV.toV,V.agz,Yo,Cz]
theorem Yp (vs:List (Nat×DV T)):lf (vs.map fun x=>(x.1,TR x.2))=(lf vs).map UX:=by simp_all [lf,UX,px]
theorem Yq (hw:AK H st) {d:Nat} {t:TypeId} {len:Nat} {ps:List (Nat×Operand)}:
 Yl (NV P st d t len ps) (fun d_=>(∃ H',Nx H st H' d_)/\(Bf P st.toSt d t len ps).1/\CH (Bf P st.toSt d t len ps).2 d_.toSt/\d_.pre=st.pre):=by
 unfold NV;split
 ·rename_i E n by' vs hs hp;split
  ·rename_i z hz;split
   ·rename_i cs hf;split
    ·rename_i l hl;refine Yl.mIf fun hg=>(HT hw (x:= .row E l) (by exact trivial) (fun _=>by simp only [DC.ok])).mono fun d_ h=>?_;simp only [and_eq_true,beq_eq,blt_eq,ble_eq]at hg;obtain⟨g1,g2,g3,g4,g5⟩:=hg;subst g1;obtain⟨h1,h2,h3⟩:=h;obtain⟨p1,p2,p3⟩:=FV (key:=[]) hw (fun _ hl=>by cases hl) rfl hp;obtain⟨z1,z2⟩:=HU hz;obtain⟨f1,_⟩:=JC hf;rw [Qv z (by omega),Yp]at f1;obtain⟨hlen,r,hr⟩:=Eh hl;have hrn:r=[]:=by have:=congrArg List.length hr;grind [AP,Dp,AV,List.length_eq_zero_iff]
     subst hrn;rw [List.append_nil]at hr;refine⟨h1,?_⟩;change (st.toSt.parts true ps).1 at p2;change (st.toSt.parts true ps).2=lf vs at p3;simp only [Bf,hs,z1,p3,f1];refine⟨(by simp_all [AP]),?_,h3⟩;rw [hr,ut];simp only [DE.toE,hlen,DC.toC]at h2;exact h2
    ·exact Yl.no
   ·exact Yl.no
  ·exact Yl.no
 ·exact Yl.no
theorem bP (hw:AK H st) {d:Nat} {t:TypeId} {l c:Int} {k k':IntKind}:
 Yl (Qu P st d t l c) (fun d_=>(∃ H',Nx H st H' d_)/\(Kk P st.toSt d t (.c (.int k l)) (.c (.int k' c))).1/\CH (Kk P st.toSt d t (.c (.int k l)) (.c (.int k' c))).2 d_.toSt/\d_.pre=st.pre):=by
 unfold Qu;split
 ·rename_i E n by' hs;split
  ·rename_i z hz;split
   ·rename_i x hx;refine Yl.mIf fun hg=>Yl.opt fun u hu=>(HT hw (x:= .row E (List.replicate l.toNat x)) (by exact trivial) (fun _=>by simp only [DC.ok])).mono fun d_ h=>?_;simp only [and_eq_true,beq_eq,blt_eq]at hg;obtain⟨g1,g2,g3⟩:=hg;subst g1;obtain⟨h1,h2,h3⟩:=h;obtain⟨z1,z2⟩:=HU hz;obtain⟨n1,n2,n3,n4⟩:=Ck hu;refine⟨h1,?_⟩;simp only [Kk,hs,z1];refine⟨(by simp_all [AP]),?_,h3⟩;have hzx:=(HO hx).2 rfl;have:=d7 (T.enc E) x hzx (by rw [AP];omega) l.toNat
    rw [this];simp only [DE.toE,List.length_replicate,DC.toC]at h2;exact h2
   ·exact Yl.no
  ·exact Yl.no
 ·exact Yl.no
theorem uA {E:Nat} {x:DV T} {m:List (T.den E)} (h:AdY st E x=some m):Ra st.toSt (T.sz E) x.toV=some (m.length,m.flatMap (T.enc E),true):=by
 have hl: ∀ {E':Nat} {l:List (T.den E')} {m:List (T.den E)},HN (T:=T) false (.u_ E) (.k (.u_ E') l)=some m->(C.sl l.length (l.flatMap (T.enc E'))=C.sl m.length (m.flatMap (T.enc E)))/\T.sz E'=T.sz E/\l.length=m.length:=by
  intro E' l m hc;unfold HN at hc;simp only at hc;split at hc
  all_goals grind
 unfold AdY at h;split at h
 ·rename_i y;split at h
  ·rename_i id ho;have:=El ho;subst this;split at h
   ·rename_i E' l hr;obtain⟨a,b,c⟩:=hl h;injection a with a1 a2;simp only [DV.toV,DC.toC,Ra,(BK hr).1,b,if_true];rw [a1,a2]
   ·cases h
  ·have:=(Cv h).2 rfl;simp only [Bk]at this;simp only [DV.toV,this,Ra];rw [if_pos (Dp (fun y=>AV E y) m)]
 ·cases h
theorem py (hw:AK H st) {d:Nat} {t:TypeId} {u x:DV T}:
 Yl (gS P st d t u x) (fun d_=>(∃ H',Nx H st H' d_)/\(Gf P st.toSt d t u.toV x.toV).1/\CH (Gf P st.toSt d t u.toV x.toV).2 d_.toSt/\d_.pre=st.pre):=by
 unfold gS;split
 ·rename_i id E' n by' hs;split
  ·rename_i E l hr;split
   ·rename_i m hm;refine Yl.mIf fun hg=>Yl.opt fun r hra=>?_;simp only [and_eq_true,beq_eq,blt_eq]at hg;obtain⟨g1,g2,g3⟩:=hg;subst g1 g2;split
    ·rename_i s hn;obtain⟨⟨H',hN⟩,h2,h3⟩:=Ag.acW hw (x:= .row E' r) trivial hn;refine Yl.ret ⟨Ag.Th hN _ (by simp only [DV.ok,DC.ok]),?_⟩;have hb:=rW hra;have hx:=wN hra;simp only [DV.toV,DC.toC,Gf,hs,(BK hr).1,uA hm,true_and];refine⟨⟨g3,hb.1,hb.2⟩,?_,by rw [AW];exact h3⟩;rw [Ag.r_];simp only [DE.toE,hx,List.length_append,List.flatMap_append]at h2;simp only [DV.toV,DC.toC,Bool.and_self];exact h2.put _ _
    ·exact Yl.no
   ·exact Yl.no
  ·exact Yl.no
 ·exact Yl.no
theorem W3 (hw:AK H st) (o:Oper):Yl (uy P st o) (Ef H P st o):=by
 have A: ∀ {x:Operand} {v:DV T},st.arg [] x=some v->v.ok H st.nx/\(st.toSt.arg true x).1/\(st.toSt.arg true x).2=v.toV:=fun h=>Hd hw h;obtain⟨dst,op,ty,pos,aft,gd⟩:=o;unfold uy;simp only;split
 ·rename_i t x y;split
  ·rename_i p v hp hv;obtain⟨a1,a2,a3⟩:=A hp;obtain⟨b1,b2,b3⟩:=A hv;have e:(lu y v).toV =oJ y v.toV:=by unfold lu oJ;grind [DV.toV,DC.toC]
   have hok:(lu y v).ok H st.nx:=by unfold lu;grind [DV.ok,DC.ok]
   refine(uz hw hok).mono fun d_ h=>?_;obtain⟨h1,h2,h3,h4⟩:=h;refine⟨h1,?_,?_,h4⟩
   all_goals grind [PL.ef,CH.refl]
  ·exact Yl.no
 ·rename_i hns;split
  ·exact Yl.no
  ·rename_i d;split
   ·rename_i t;split
    ·rename_i cs hz;obtain⟨z1,z2⟩:=NQ hz;refine(HT hw (x:= .box cs) z2 (fun _=>by simp only [DC.ok])).mono fun d_ h=>?_;obtain⟨h1,h2,h3⟩:=h;refine⟨h1,?_,?_,h3⟩
     ·simp only [PL.ef,z1]
     ·simp only [PL.ef,z1];simp only [DE.toE,DC.toC]at h2;exact h2
    ·exact Yl.no
   ·rename_i t x;split
    ·rename_i v hv;split
     ·rename_i cs hc;obtain⟨b1,b2,b3⟩:=A hv;obtain⟨c1,c2⟩:=DV.adz hc;refine(HT hw (x:= .box cs) (c2 b1) (fun _=>by simp only [DC.ok])).mono fun d_ h=>?_;obtain⟨h1,h2,h3⟩:=h;refine⟨h1,?_,?_,h3⟩
      ·simp_all [PL.ef]
      ·simp only [PL.ef,b3,c1];simp only [DE.toE,DC.toC]at h2;exact h2
     ·exact Yl.no
    ·exact Yl.no
   ·split
    ·rename_i E n hs;refine Yl.mIf fun hg=>(HT hw (x:= .row E []) (by exact trivial) (fun _=>by simp only [DC.ok])).mono fun d_ h=>?_;have hg:=Nat.eq_of_beq_eq_true hg;subst hg;obtain⟨h1,h2,h3⟩:=h;refine⟨h1,?_,?_,h3⟩
     ·simp only [PL.ef,hs]
     ·simp only [PL.ef,hs];simp only [DE.toE,DC.toC,List.length_nil,List.flatMap_nil]at h2;exact h2
    ·exact Yl.no
   ·rename_i t len ps;refine(Yq hw).mono fun d_ h=>?_;obtain⟨h1,h2,h3,h4⟩:=h;exact⟨h1,by simpa only [PL.ef] using h2,by simpa only [PL.ef] using h3,h4⟩
   ·rename_i t l c;split
    ·rename_i k l' k' c' hl hc;obtain⟨a1,a2,a3⟩:=A hl;obtain⟨b1,b2,b3⟩:=A hc;simp only [DV.toV,DC.toC,Bk]at a3 b3;refine(bP hw (k:=k) (k':=k')).mono fun d_ h=>?_;obtain⟨h1,h2,h3,h4⟩:=h;refine⟨h1,?_,?_,h4⟩
     all_goals grind [PL.ef]
    ·exact Yl.no
   ·rename_i c;split
    ·rename_i u x t t' ae5 acY apY;split
     ·rename_i a b ha hb;obtain⟨a1,a2,a3⟩:=A ha;obtain⟨b1,b2,b3⟩:=A hb;refine Yl.mIf fun hg=>(py hw).mono fun d_ h=>?_;have hg:=Nat.eq_of_beq_eq_true hg;obtain⟨h1,h2,h3,h4⟩:=h;refine⟨h1,?_,?_,h4⟩
      all_goals grind [PL.ef]
     ·exact Yl.no
    ·exact Yl.no
   ·exact Yl.no
end
end Go.PL
namespace Go.PL
open Go Go.RowKit
structure OE where
 dp:Bool
 E:TypeId
 n:Nat
 len:Nat
 cs:List C
def OE.ent (o:OE) (id:Ah):AB:=⟨id,some (o.E,o.n,o.len),o.cs,true⟩
def CN:List OE->List Ah->List AB
 | o::os,i::is=>o.ent i::CN os is
 | _,_=>[]
def Kb:List OE->List Ah->Bool
 | [],[]=>true
 | o::os,i::is=>(E9 i==o.dp&& !C2 i)&&Kb os is
 | _,_=>false
inductive PC where
 | c (x:C)
 | o (j:Nat)
def PC.toC (ids:List Ah):PC->C
 | .c x=>x
 | .o j=> .n_ (ids.getD j [])
inductive PP where
 | c (x:PC)
 | a (cs:List PC)
def PP.toV (ids:List Ah):PP->V
 | .c x=> .c (x.toC ids)
 | .a cs=> .agg (cs.map (PC.toC ids))
def Nj (ids:List Ah):List PP->V
 | [p]=>p.toV ids
 | ps=> .tup (ps.map (PP.toV ids))
def PC.ok (m:Nat):PC->Bool
 | .c x=>x.pure
 | .o j=>Nat.blt j m
def PP.ok (m:Nat):PP->Bool
 | .c x=>x.ok m
 | .a cs=>cs.all (PC.ok m)
structure Mr (P:Program) (I:World->Prop) (f:FuncId) (args:List V) (outs:List OE) (ps:List PP):Prop where
 ent:ent P f=true
 pok:ps.all (PP.ok outs.length)=true
 run: ∀ (w:World) (vs:Array Value) (av:Nat->Prop),I w->(∀ b,av b->b<w.heap.size)->Aw w (im av) args vs.toList->
  Calls P f vs w (fun e w'=> ∃ v ids G',e= .returned v/\Kb outs ids=true/\ids.Nodup/\Ad w' G' (Nj ids ps) v/\
   (∀ e∈CN outs ids,Ba w' G' e/\Bu w' G' e/\Au e.cs=true)/\(∀ i j b,G'.y_ i=some b->G'.y_ j=some b->i=j)/\
   (∀ i b,G'.y_ i=some b->w.heap.size<=b/\b<w'.heap.size)/\(∀ b,G'.wr b↔av b\/ ∃ i,G'.y_ i=some b)/\Below w.heap.size w w')
def reN (o i:Ah):Ah:=match i with
 | _::k::_=>BL k o
 | _=>o
def KW:List Ah->List Ah->Ah->Option Ah
 | n::ns,o::os,i=>if i=n then some o else if D9 n i=true then some (reN o i)else KW ns os i
 | _,_,_=>none
def Lt (ns:List Ah) (i:Ah):Bool:=ns.any fun n=>i==n||D9 n i
theorem AdZ (o n:Ah) (k:Nat):reN o (BL k n)=BL k o:=rfl
theorem uB {ns os:List Ah} {i:Ah} (hl:ns.length=os.length) (h:Lt ns i=false):KW ns os i=none:=by
 induction ns generalizing os with
 | nil=>rfl
 | cons n ns ih=>
   cases os<;>simp_all [Lt,KW]
theorem lC {ns os:List Ah} {i a:Ah} (h:KW ns os i=some a): ∃ (j:Nat) (n o:Ah),ns[j]? =some n/\os[j]? =some o/\(i=n/\a=o\/ ∃ k,i=BL k n/\a=BL k o):=by
 induction ns generalizing os with
 | nil=>simp [KW]at h
 | cons n ns ih=>
   cases os with
   | nil=>simp [KW]at h
   | cons o os=>
     simp only [KW]at h;split at h
     ·rename_i he;injection h with h;exact⟨0,n,o,rfl,rfl, .inl ⟨he,h.symm⟩⟩
     ·split at h
      ·rename_i he;obtain⟨k,rfl⟩:=rT he;injection h with h;exact⟨0,n,o,rfl,rfl, .inr ⟨k,rfl,h.symm⟩⟩
      ·obtain⟨j,n',o',h1,h2,h3⟩:=ih h;exact⟨j+1,n',o',h1,h2,h3⟩
theorem AaM {ns os:List Ah} {j:Nat} {n o:Ah} (hn:ns.Nodup) (hmk: ∀ n∈ns,C2 n=false) (h1:ns[j]? =some n) (h2:os[j]? =some o):KW ns os n=some o/\ ∀ k,KW ns os (BL k n)=some (BL k o):=by
 induction ns generalizing os j with
 | nil=>simp at h1
 | cons m ns ih=>
   cases os with
   | nil=>simp at h2
   | cons q os=>
     simp only [nodup_cons]at hn;cases j with
     | zero=>
       simp only [List.getElem?_cons_zero,injEq]at h1 h2;subst h1 h2;refine⟨by simp [KW],fun k=>?_⟩;simp only [KW];rw [if_neg (fun e=>by have:=hmk m (by simp);rw [<-e]at this;cases this),if_pos (by rw [Il];simp),AdZ]
     | succ j=>
       simp only [List.getElem?_cons_succ]at h1 h2;have hm:n∈ns:=(by grind);have hne:n ≠ m:=(by grind);obtain⟨a,b⟩:=ih hn.2 (fun x hx=>hmk x (by simp [hx])) h1 h2;have hmn:=hmk n (by simp [hm]);refine⟨?_,fun k=>?_⟩
       ·simp only [KW];rw [if_neg hne,if_neg (fun e=>by obtain⟨k,rfl⟩:=rT e;cases hmn)];exact a
       ·simp only [KW];rw [if_neg (fun e=>by have:=hmk m (by simp);rw [<-e]at this;cases this),if_neg (fun e=>by rw [Il]at e;exact hne (by simpa using e))];exact b k
theorem Ad0 {α:Type} {l:List α} (h:l.Nodup) {i j:Nat} {x:α} (hi:l[i]? =some x) (hj:l[j]? =some x):i=j:=by grind [List.pairwise_iff_getElem]
theorem xp {ns os:List Ah} {i j a:Ah} (hn:ns.Nodup) (ho:os.Nodup) (hmo: ∀ o∈os,C2 o=false) (h1:KW ns os i=some a) (h2:KW ns os j=some a):i=j:=by
 obtain⟨p,n,o,a1,a2,a3⟩:=lC h1;obtain⟨q,n',o',b1,b2,b3⟩:=lC h2;have key:o=o'->p=q:=(by grind [Ad0]);have m1:=hmo o (mem_of_getElem? a2);have m2:=hmo o' (mem_of_getElem? b2);rcases a3 with ⟨rfl,rfl⟩ | ⟨k,rfl,rfl⟩<;>rcases b3 with ⟨rfl,e⟩ | ⟨k',rfl,e⟩
 ·grind
 ·rw [e]at m1;cases m1
 ·rw [<-e]at m2;cases m2
 grind [Q4]
theorem I4: ∀ {outs:List OE} {ids:List Ah},Kb outs ids=true->ids.length=outs.length/\(∀ i∈ids,C2 i=false)/\ ∀ (j:Nat) (o:OE) (i:Ah),outs[j]? =some o->ids[j]? =some i->E9 i=o.dp
 | [],[],_=>(by grind)
 | [],_::_,h=>by simp [Kb]at h
 | _::_,[],h=>by simp [Kb]at h
 | o::os,i::is,h=>by simp only [Kb,and_eq_true,beq_iff_eq,not_eq_true']at h;obtain⟨a,b,c⟩:=I4 h.2;grind
theorem TS: ∀ {outs:List OE} {ids:List Ah} {e:AB},e∈CN outs ids-> ∃ (j:Nat) (o:OE) (i:Ah),outs[j]? =some o/\ids[j]? =some i/\e=o.ent i
 | [],_,_,h=>by simp [CN]at h
 | _::_,[],_,h=>by simp [CN]at h
 | o::os,i::is,e,h=>by
   simp only [CN,mem_cons]at h;rcases h with rfl | h
   ·exact⟨0,o,i,rfl,rfl,rfl⟩
   ·obtain⟨j,o',i',a,b,c⟩:=TS h;exact⟨j+1,o',i',by grind,by grind,c⟩
theorem Yr: ∀ {outs:List OE} {ids:List Ah} {j:Nat} {o:OE} {i:Ah},outs[j]? =some o->ids[j]? =some i->o.ent i∈CN outs ids
 | [],_,_,_,_,h,_=>by simp at h
 | _::_,[],_,_,_,_,h=>by simp at h
 | o::os,i::is,0,o',i',h1,h2=>by grind [CN]
 | o::os,i::is,j+1,o',i',h1,h2=>by simp only [CN,mem_cons];exact .inr (Yr (by simpa using h1) (by simpa using h2))
theorem eE: ∀ {outs:List OE} {ids:List Ah},ids.length=outs.length->(CN outs ids).map (·.id)=ids
 | [],[],_=>rfl
 | [],_::_,h=>by simp at h
 | _::_,[],h=>by simp at h
 | o::os,i::is,h=>by simp only [CN,map_cons,OE.ent,eE (outs:=os) (ids:=is) (by simpa using h)]
theorem Cf.sub {G G':AJ} {w:World} (h: ∀ b,b<w.heap.size->G'.wr b->G.wr b):Cf G G' w w:=⟨le_refl _,fun _ _ _=>rfl,h,fun _ _ _ _=>B7.same rfl⟩
theorem AcX {w:World} {G G':AJ} {ids ns:List Ah} {m:Nat} (hk:Cf G G' w w) (hl:ids.length=m) (ho: ∀ (j:Nat) (i n:Ah),ids[j]? =some i->ns[j]? =some n->G'.own n=G.own i) (hl2:ns.length=m) {p:PC} (hp:p.ok m=true) {v:Value} (h:Af w G (p.toC ids) v):Af w G' (p.toC ns) v:=by
 cases p with
 | c x=>exact Af.mono hk x v (fun i hi=>absurd (show x.E_ i=true from hi) (by rw [HG i x hp];simp)) h
 | o j=>
   grind [PC.ok,blt_eq,PC.toC,Af]
theorem AcY {w:World} {G G':AJ} {ids ns:List Ah} {m:Nat} (hk:Cf G G' w w) (hl:ids.length=m) (ho: ∀ (j:Nat) (i n:Ah),ids[j]? =some i->ns[j]? =some n->G'.own n=G.own i) (hl2:ns.length=m): ∀ {ps:List PC} {vs:List Value},ps.all (PC.ok m)=true->Ai w G (ps.map (PC.toC ids)) vs->Ai w G' (ps.map (PC.toC ns)) vs
 | [],[],_,_=>by simp [Ai]
 | [],_::_,_,h=>by simp [Ai]at h
 | _::_,[],_,h=>by simp [Ai]at h
 | p::ps,v::vs,hp,h=>by simp only [all_cons,and_eq_true]at hp;simp only [map_cons,Ai]at h ⊢;exact⟨AcX hk hl ho hl2 hp.1 h.1,AcY hk hl ho hl2 hp.2 h.2⟩
theorem AcZ {w:World} {G G':AJ} {ids ns:List Ah} {m:Nat} (hk:Cf G G' w w) (hl:ids.length=m) (ho: ∀ (j:Nat) (i n:Ah),ids[j]? =some i->ns[j]? =some n->G'.own n=G.own i) (hl2:ns.length=m) {p:PP} (hp:p.ok m=true) {v:Value} (h:Ad w G (p.toV ids) v):Ad w G' (p.toV ns) v:=by
 cases p with
 | c x=>simp only [PP.toV,Ad]at h ⊢;exact AcX hk hl ho hl2 hp h
 | a cs=>
   simp only [PP.toV,Ad]at h ⊢;obtain⟨arr,e,h⟩:=h;exact⟨arr,e,AcY hk hl ho hl2 hp h⟩
theorem pz {w:World} {G G':AJ} {ids ns:List Ah} {m:Nat} (hk:Cf G G' w w) (hl:ids.length=m) (ho: ∀ (j:Nat) (i n:Ah),ids[j]? =some i->ns[j]? =some n->G'.own n=G.own i) (hl2:ns.length=m): ∀ {ps:List PP} {vs:List Value},ps.all (PP.ok m)=true->Aw w G (ps.map (PP.toV ids)) vs->Aw w G' (ps.map (PP.toV ns)) vs
 | [],vs,_,h=>by simpa [Aw] using h
 | p::ps,vs,hp,h=>by simp only [all_cons,and_eq_true]at hp;simp only [map_cons,Aw]at h ⊢;obtain⟨v,r,e,h1,h2⟩:=h;exact⟨v,r,e,AcZ hk hl ho hl2 hp.1 h1,pz hk hl ho hl2 hp.2 h2⟩
theorem Ad1 {w:World} {G G':AJ} {ids ns:List Ah} {m:Nat} (hk:Cf G G' w w) (hl:ids.length=m) (ho: ∀ (j:Nat) (i n:Ah),ids[j]? =some i->ns[j]? =some n->G'.own n=G.own i) (hl2:ns.length=m) {ps:List PP} (hp:ps.all (PP.ok m)=true) {v:Value} (h:Ad w G (Nj ids ps) v):Ad w G' (Nj ns ps) v:=by
 match ps,hp,h with
 | [p],hp,h=>
   simp only [all_cons,all_nil,Bool.and_true]at hp;exact AcZ hk hl ho hl2 hp h
 | [],hp,h=>
   grind [Nj,Ad,pz]
 | p::q::ps,hp,h=>
   grind [Nj,Ad,pz]
theorem gT {w:World} {G G':AJ} (hk:Cf G G' w w) {i n:Ah} {r:TypeId×Nat×Nat} {cs:List C} (hp:Au cs=true) (hb:G'.y_ n=G.y_ i) (ho:G'.own n=G.own i) (h:Ba w G ⟨i,some r,cs,true⟩):Ba w G' ⟨n,some r,cs,true⟩:=by
 obtain⟨E,m,len⟩:=r;unfold Ba at *;obtain⟨hl,v,h1,h2⟩:=h;refine⟨hl,v,by grind,?_⟩;rcases h2 with ⟨p,e1,e2,e3⟩ | ⟨b,cap,cur,e1,e2,e3,e4,e5,e6,e7⟩
 ·grind
 ·exact .inr ⟨b,cap,cur,e1,by grind,e3,e4,e5,e6,Am.mono hk _ _ _ (fun i hi=>absurd (show BO i cs=true from hi) (by rw [AU i cs hp];simp)) (fun _=>rfl) e7⟩
end Go.PL
namespace Go.PL
open Go Go.RowKit
section
variable {F:Fr} {st:St} {a:Act} {w w':World} {G Gc:AJ}
def JF (F:Fr) (G Gc:AJ) (ns ids:List Ah):AJ where
 y_:=fun i=>match KW ns ids i with | some a=>Gc.y_ a | none=>G.y_ i
 own:=fun i=>match KW ns ids i with | some a=>Gc.own a | none=>G.own i
 wr:=fun x=>F.av x\/ ∃ i,(match KW ns ids i with | some a=>Gc.y_ a | none=>G.y_ i)=some x
theorem R.awJ (h:R F st a w G) (hb:Below w.heap.size w w') {outs:List OE} {ids ns:List Ah} {av:Nat->Prop} (hav: ∀ b,G.wr b->av b) (arN:Kb outs ids=true) (hnd:ids.Nodup) (hns:Kb outs ns=true) (hnn:ns.Nodup)
 (hE: ∀ e∈CN outs ids,Ba w' Gc e/\Bu w' Gc e/\Au e.cs=true) (av6: ∀ i j b,Gc.y_ i=some b->Gc.y_ j=some b->i=j) (hfr: ∀ i b,Gc.y_ i=some b->w.heap.size<=b/\b<w'.heap.size) (hwr: ∀ b,Gc.wr b↔av b\/ ∃ i,Gc.y_ i=some b):
 R F (st.j_ (Lt ns) (CN outs ns++(st.so.filter fun e=> !(Lt ns e.id)).map (AB.j_ (Lt ns)))) a w' (JF F G Gc ns ids)/\Cf Gc (JF F G Gc ns ids) w' w'/\
   ∀ (j:Nat) (i n:Ah),ids[j]? =some i->ns[j]? =some n->(JF F G Gc ns ids).own n=Gc.own i:=by
 obtain⟨l1,m1,d1⟩:=I4 arN;obtain⟨l2,m2,d2⟩:=I4 hns;have aHD: ∀ i,Lt ns i=false->KW ns ids i=none:=fun i hi=>uB (by omega) hi;have hin: ∀ (j:Nat) (i n:Ah),ids[j]? =some i->ns[j]? =some n->KW ns ids n=some i/\ ∀ k,KW ns ids (BL k n)=some (BL k i):=(by grind [AaM]);have sub: ∀ b,(JF F G Gc ns ids).wr b->Gc.wr b:=fun b hw=>by
  rw [hwr];simp only [JF]at hw;rcases hw with q | ⟨i,q⟩
  ·exact .inl (hav b ((h.wr b).2 (.inl q)))
  ·split at q
   ·grind
   ·exact .inl (hav b ((h.wr b).2 (.inr ⟨i,q⟩)))
 have hk:Cf Gc (JF F G Gc ns ids) w' w':=Cf.sub (by grind);have t:I_ F (Lt ns) (fun _=>false) G (JF F G Gc ns ids) w w':={
  agree:=(by simp_all [JF])
  same:=fun i b _ hib=>hb.block b (h.lt i b hib)
  keeps:=⟨hb.size,fun b hb' _=>hb.block b hb',fun b hb' hw=>by simp only [JF]at hw;rw [h.wr];grind,fun i b q1 _=>B7.same (hb.block b (h.lt i b q1))⟩
  outer:=Ee hb
  ext:=fun b hb' _=>hb.block b (Nat.lt_of_lt_of_le hb' h.L_)
  wr:=fun b=>Iff.rfl
  inj:=fun i j b q1 q2=>by
   simp only [JF]at q1 q2;split at q1<;>split at q2
   ·grind [xp]
   ·have a1:=hfr _ _ q1;have a2:=h.lt _ _ q2;omega
   ·have a1:=hfr _ _ q2;have a2:=h.lt _ _ q1;omega
   ·exact h.inj _ _ _ q1 q2
  lt:=fun i b q=>by
   simp only [JF]at q;split at q
   ·grind
   ·exact Nat.lt_of_lt_of_le (h.lt _ _ q) hb.size
  new:=fun i b q=>by
   simp only [JF]at q;split at q
   ·exact .inl (Nat.le_trans h.L_ (hfr _ _ q).1)
   ·exact h.new _ _ q}
 have aaK: ∀ (j:Nat) (i n:Ah),ids[j]? =some i->ns[j]? =some n->(JF F G Gc ns ids).own n=Gc.own i:=(by grind [JF]);have ab5: ∀ (j:Nat) (i n:Ah),ids[j]? =some i->ns[j]? =some n->(JF F G Gc ns ids).y_ n=Gc.y_ i:=(by grind [JF]);have new: ∀ e∈CN outs ns,Ba w' (JF F G Gc ns ids) e/\Bu w' (JF F G Gc ns ids) e/\Au e.cs=true:=by
  intro e he;obtain⟨j,o,n,q1,q2,rfl⟩:=TS he;have hj:j<ids.length:=by grind
  obtain⟨i,q3⟩: ∃ i,ids[j]? =some i:=(by grind);obtain⟨e1,e2,e3⟩:=hE _ (Yr q1 q3);have hb1:=ab5 j i n q3 q2;have ho1:=aaK j i n q3 q2;refine⟨gT hk e3 hb1 ho1 e1,⟨m2 n (mem_of_getElem? q2),fun hd=>⟨rfl,rfl,?_⟩⟩,e3⟩;have hdi:E9 i=true:=by rw [d1 j o i q1 q3, <-d2 j o n q1 q2];exact hd
  obtain⟨_,_,hI⟩:=e2.2 hdi;intro k E n' len cs hc;obtain⟨p1,p2,b,v,p3,p4,p5⟩:=hI k E n' len cs hc;have hm:=(hin j i n q3 q2).2 k;have hbm:(JF F G Gc ns ids).y_ (BL k n)=Gc.y_ (BL k i):=by simp only [JF,hm]
  have hom:(JF F G Gc ns ids).own (BL k n)=Gc.own (BL k i):=by simp only [JF,hm]
  exact⟨p1,gT hk p1 hbm hom p2,b,v,hb1.trans p3,p4,hom.trans p5⟩
 have hold: ∀ e∈(st.so.filter fun e=> !(Lt ns e.id)).map (AB.j_ (Lt ns)), ∃ d∈st.so,Lt ns d.id=false/\e=d.j_ (Lt ns):=by grind
 have hdk: ∀ d∈st.so,Lt ns d.id=false->E9 d.id=true-> ∀ k,Lt ns (BL k d.id)=false/\(fun _=>false:Ah->Bool) (BL k d.id)=false:=by
  intro d hd hp hD k;refine⟨?_,rfl⟩;cases hq:Lt ns (BL k d.id)with
  | false=>rfl
  | true=>
    obtain⟨n,hn,hq⟩:=any_eq_true.1 hq;simp only [or_eq_true,beq_iff_eq]at hq;rcases hq with hq | hq
    ·have:=m2 n hn;rw [<-hq]at this;cases this
    simp_all [Il,Lt]
 refine⟨t.agr h _ (fun e he=>?_) (fun e he=>?_) (fun e he=>?_) ?_,hk,aaK⟩
 ·rcases mem_append.1 he with he | he
  ·grind
  ·obtain⟨d,h1,h2,rfl⟩:=hold e he;exact t.ent h h1 h2 rfl
 ·rcases mem_append.1 he with he | he
  ·grind
  ·obtain⟨d,h1,h2,rfl⟩:=hold e he;exact t.deep h h1 h2 rfl (hdk d h1 h2)
 ·rcases mem_append.1 he with he | he
  ·grind
  ·obtain⟨d,h1,h2,rfl⟩:=hold e he;exact Qh (h.P_ d h1)
 ·rw [map_append,eE l2,map_map];have e1:(fun e:AB=>e.id) ∘ AB.j_ (Lt ns)=fun e=>e.id:=by grind [AB.K_]
  rw [e1];refine List.nodup_append.2 ⟨hnn,List.Sublist.nodup (by grind [List.filter_sublist]) h.nodup,fun x hx y hy=>?_⟩;obtain⟨d,hd,rfl⟩:=mem_map.1 hy;grind [Lt]
theorem E4.azO {P:Program} {I:World->Prop} {o:Oper} {K:St->Prop} {f:FuncId} {xs:List Operand} {outs:List OE} {ps:List PP} (d:Nat)
 (hk:Cb o.op= .call f xs) (hd:o.dst=some d) (ha:(st.args true xs).1) (hp:B9 ((st.args true xs).2.map (BC st))=true) (ayL:C0 (st.args true xs).2=[])
 (hc:Mr P I f ((st.args true xs).2.map (BC st)) outs ps) {ns:List Ah} (hns:Kb outs ns=true) (hnn:ns.Nodup)
 (hK:K ((st.j_ (Lt ns) (CN outs ns++(st.so.filter fun e=> !(Lt ns e.id)).map (AB.j_ (Lt ns)))).put (some d) (Nj ns ps))):E4 P I o st K:=by
 intro F a w G Q0 hI hR;have hI':I w:=hI▸hR.inv w hR.L_ hR.ext;have hr:=Rf (a:=a) hk hc.ent w;unfold Oper.wp Oper.upon;rw [hr];have hx:Aw w G (st.args true xs).2 (xs.map a.eval):=hR.args rfl ha;have h3:=G5 hR (av:=fun b=>G.wr b) (fun _ _ q=>q) (by grind) hp hx;refine(hc.run w (xs.map a.eval).toArray (fun b=>G.wr b) hI' (fun b hb=>hR.alM hb) (by grind)).mono fun e w' ⟨v,ids,Gc,he,arN,hnd,hv,hE,av6,hfr,hwr,hb⟩=>?_;subst he;obtain⟨g1,g2,g3⟩:=hR.awJ hb (fun _ q=>q) arN hnd hns hnn hE av6 hfr hwr;refine⟨_,JF F G Gc ns ids,hK,?_⟩;rw [hd];exact R.put (d:=some d) g1 (Ad1 g2 (I4 arN).1 g3 (I4 hns).1 hc.pok hv)
def Agz (P:Program) (st:St) (rs:List ResultVar) (outs:List OE) (ps:List PP):Prop:=
 ∃ ids,Kb outs ids=true/\ids.Nodup/\(Ct P st rs).1/\(∀ (w:World) (G:AJ) (v:Value),Ad w G (Ct P st rs).2 v->Ad w G (Nj ids ps) v)/\ ∀ e∈CN outs ids,e∈st.so
theorem Mr.of {P:Program} {I:World->Prop} (hst:Ik I) {f:FuncId} {fn:Func} {c:Code} {args:List V} {outs:List OE} {ps:List PP} (abR:PL.ent P f=true) (hf:P.funcs[f]? =some fn) (hb:fn.body=some c) (aDl:ps.all (PP.ok outs.length)=true)
 (h: ∀ F:Fr,F.I=I->Aq P F c (St.start args fn.ntmps) (fun e d_=>(e= .normal \/e= .ret)/\Agz P d_ fn.results.toList outs ps)):Mr P I f args outs ps:=by
 refine⟨abR,aDl,fun w vs av hI hav acY=>calls_of_wp hf hb ?_⟩;have hR:=R.start hst hI hav acY fn.ntmps;refine Code.wp_mono (fun e a' w' ⟨d_,G',⟨he,q⟩,hR'⟩=>?_) (h ⟨w,av,fun _=>False,I,[]⟩ rfl _ _ _ hR);obtain⟨ids,q1,q2,q3,q4,q5⟩:=q;obtain⟨v,r1,r2⟩:=Mi hR' (fn:=fn) q3;have fin:a'.defers=[]/\ ∃ v,(results fn a'.tmps).run P w'= .ok v w'/\(fun(e:Ending) w''=> ∃ v ids G',e= .returned v/\Kb outs ids=true/\ids.Nodup/\Ad w'' G' (Nj ids ps) v/\
  (∀ e∈CN outs ids,Ba w'' G' e/\Bu w'' G' e/\Au e.cs=true)/\(∀ i j b,G'.y_ i=some b->G'.y_ j=some b->i=j)/\
  (∀ i b,G'.y_ i=some b->w.heap.size<=b/\b<w''.heap.size)/\(∀ b,G'.wr b↔av b\/ ∃ i,G'.y_ i=some b)/\Below w.heap.size w w'') (.returned v) w':=by
  refine⟨hR'.dfr,v,r1,v,ids,G',rfl,q1,q2,q4 _ _ _ r2,fun e he'=>⟨hR'.store e (q5 e he'),hR'.deep e (q5 e he'),?_⟩,hR'.inj,fun i b hib=>⟨?_,hR'.lt i b hib⟩,hR'.wr,hR'.below (fun _ hx=>hx)⟩
  ·refine hR'.P_ e (q5 e he') ?_;obtain⟨j,o,i,_,_,rfl⟩:=TS he';rfl
  ·rcases hR'.new i b hib with q | q
   all_goals grind
 rcases he with rfl | rfl<;>exact fin
end
end Go.PL
set_option linter.all false
namespace Go.PL
open Go Go.RowKit
def OE.frz (o:OE):List C:=match o.dp with
 | true=>o.cs.map Pr
 | false=>o.cs
def PC.frz (outs:List OE):PC->C
 | .c x=>x
 | .o j=>match outs[j]? with
   | some q=> .sl q.len q.frz
   | none=> .any
def PP.frz (outs:List OE):PP->V
 | .c x=> .c (x.frz outs)
 | .a cs=> .agg (cs.map (PC.frz outs))
def uC (outs:List OE):List PP->V
 | [p]=>p.frz outs
 | ps=> .tup (ps.map (PP.frz outs))
section
variable {w:World} {G:AJ} {av:Nat->Prop}
theorem eF: ∀ {cs:List C} {b o:Nat},Am w G cs b o-> ∀ k c,cs[k]? =some c-> ∃ v,w.cell? ⟨b,o+k,none⟩=some v/\Af w G c v
 | [],_,_,_,k,c,h=>by simp at h
 | d::cs,b,o,hr,k,c,h=>by
   simp only [Am]at hr;cases k with
   | zero=>simp only [List.getElem?_cons_zero,injEq]at h;subst h;simpa using hr.1
   | succ k=>
     have:=eF hr.2 k c (by simpa using h);rw [show o+(k+1)=o+1+k by omega];exact this
theorem Ys (ahS: ∀ b,b<w.heap.size->av b->G.wr b) (hb: ∀ i b,G.y_ i=some b-> ¬av b) (hlt: ∀ i b,G.y_ i=some b->b<w.heap.size) {i:Ah} {E:TypeId} {n len:Nat} {cs ds:List C} {v:Value} (hE:Ba w G ⟨i,some (E,n,len),cs,true⟩) (hv:G.own i=some v)
 (hd:Au ds=true) (hl:ds.length=cs.length) (Tc: ∀ b,G.y_ i=some b->Am w G cs b 0->Am w (im av) ds b 0):Af w (im av) (.sl len ds) v:=by
 unfold Ba at hE;obtain⟨h0,v',h1,h2⟩:=hE;rw [hv]at h1;injection h1 with h1;subst h1;simp only [Af];refine⟨hd,?_⟩;rcases h2 with ⟨p,rfl,rfl,_⟩ | ⟨b,cap,cur,rfl,e2,e3,e4,e5,e6,e7⟩
 ·grind
 ·refine⟨_,cap,rfl,e4,e5,(by grind [List.length_eq_zero_iff]), .inr ⟨b,0,rfl,hb i b e2,hlt i b e2,Tc b e2 e7⟩⟩
theorem AgA (ahS: ∀ b,b<w.heap.size->av b->G.wr b) (hb: ∀ i b,G.y_ i=some b-> ¬av b) (hlt: ∀ i b,G.y_ i=some b->b<w.heap.size) {o:OE} {i:Ah} {v:Value} (hE:Ba w G (o.ent i)) (hD:Bu w G (o.ent i)) (hdp:E9 i=o.dp) (hp:Au o.cs=true) (hv:G.own i=some v):Af w (im av) (.sl o.len o.frz) v:=by
 have hk:Cf G (im av) w w:=Cf.sub ahS;have mono: ∀ c u,c.pure=true->Af w G c u->Af w (im av) c u:=fun c u hc h=>Af.mono hk c u (fun i hi=>absurd (show c.E_ i=true from hi) (by rw [HG i c hc];simp)) h;unfold OE.frz;cases hq:o.dp with
 | false=>
   refine Ys ahS hb hlt hE hv hp rfl fun b _ hr=>?_;exact Am.mono hk _ _ _ (fun i hi=>absurd (show BO i o.cs=true from hi) (by rw [AU i o.cs hp];simp)) (fun _=>rfl) hr
 | true=>
   obtain⟨_,_,hI⟩:=hD.2 (by show E9 i=true;rw [hdp,hq]);have pf:Au (o.cs.map Pr)=true:=by rw [B6,all_eq_true]at hp ⊢;intro c hc;obtain⟨d,hd,rfl⟩:=mem_map.1 hc;have:=hp d hd;cases d<;>first | exact this | rfl
   refine Ys ahS hb hlt hE hv pf (by simp) fun b hbi hr=>Aap fun k c hc=>?_;obtain⟨u,u1,u2⟩:=eF hr k c hc;refine⟨u,u1,?_⟩;by_cases aDD: ∃ E n len cs,c= .isl E n len cs
   ·obtain⟨E,n,len,cs,rfl⟩:=aDD;obtain⟨k1,k2,b',u',k3,k4,k5⟩:=hI k E n len cs hc;have k3:G.y_ i=some b':=k3;rw [hbi]at k3;injection k3 with k3;subst k3;rw [zero_add]at u1;rw [u1]at k4;injection k4 with k4;subst k4;simp only [Pr];exact Ys ahS hb hlt k2 k5 k1 rfl fun b _ hr=>Am.mono hk _ _ _ (fun i hi=>absurd (show BO i cs=true from hi) (by rw [AU i cs k1];simp)) (fun _=>rfl) hr
   ·have e:Pr c=c:=by cases c<;>first | rfl | grind
    grind [B6]
end
theorem Mr.flat {P:Program} {I:World->Prop} {f:FuncId} {args:List V} {outs:List OE} {ps:List PP} (h:Mr P I f args outs ps) (alo:(uC outs ps).pure =true):CZ P I f args (· =uC outs ps):=by
 refine⟨h.ent,fun w vs av hI hav hr=>(h.run w vs av hI hav hr).mono ?_⟩;rintro e w' ⟨v,ids,G,he,hns,hnd,hv,hE,av6,hfr,hwr,hb⟩;refine⟨v,_,he,rfl,alo,?_,hb⟩;obtain⟨l1,m1,d1⟩:=I4 hns;have ahS: ∀ b,b<w'.heap.size->av b->G.wr b:=(by grind);have hbn: ∀ i b,G.y_ i=some b-> ¬av b:=(by grind);have hlt: ∀ i b,G.y_ i=some b->b<w'.heap.size:=(by grind);have hk:Cf G (im av) w' w':=Cf.sub ahS;have pc: ∀ (p:PC) (u:Value),p.ok outs.length=true->Af w' G (p.toC ids) u->Af w' (im av) (p.frz outs) u:=by
  intro p u hp hu;cases p with
  | c x=>exact Af.mono hk x u (fun i hi=>absurd (show x.E_ i=true from hi) (by rw [HG i x hp];simp)) hu
  | o j=>
    simp only [PC.ok,blt_eq]at hp;simp only [PC.toC,Af]at hu;have e1:outs[j]? =some outs[j]:=(by grind);have e2:ids[j]? =some (ids.getD j []):=by grind
    simp only [PC.frz,e1];obtain⟨q1,q2,q3⟩:=hE _ (Yr e1 e2);exact AgA ahS hbn hlt q1 q2 (d1 j _ _ e1 e2) q3 hu.1
 have pl: ∀ (cs:List PC) (us:List Value),cs.all (PC.ok outs.length)=true->Ai w' G (cs.map (PC.toC ids)) us->Ai w' (im av) (cs.map (PC.frz outs)) us:=by
  intro cs;induction cs with
  | nil=>intro us _ hu;cases us<;>simpa [Ai] using hu
  | cons c cs ih=>
    intro us hc hu;cases us<;>simp_all [Ai]
 have pp: ∀ (p:PP) (u:Value),p.ok outs.length=true->Ad w' G (p.toV ids) u->Ad w' (im av) (p.frz outs) u:=by
  intro p u hp hu;cases p with
  | c x=>simp only [PP.toV,PP.frz,Ad]at hu ⊢;exact pc x u hp hu
  | a cs=>
    simp only [PP.toV,PP.frz,Ad]at hu ⊢;obtain⟨arr,e,hu⟩:=hu;exact⟨arr,e,pl cs _ hp hu⟩
 have pps: ∀ (l:List PP) (us:List Value),l.all (PP.ok outs.length)=true->Aw w' G (l.map (PP.toV ids)) us->Aw w' (im av) (l.map (PP.frz outs)) us:=by
  intro l;induction l with
  | nil=>grind [Aw]
  | cons p l ih=>
    intro us hp hu;simp only [all_cons,and_eq_true]at hp;grind [Aw]
 have hok:=h.pok
 match ps,hok,hv with
 | [p],hok,hv=>
   simp only [all_cons,all_nil,Bool.and_true]at hok;exact pp p v hok hv
 | [],hok,hv=>
   grind [Nj,uC,Ad]
 | p::q::l,hok,hv=>
   grind [Nj,uC,Ad]
end Go.PL
set_option linter.all false
namespace Go.PL
open Go Go.RowKit
mutual
theorem eG {p q:Ah->Bool} (h: ∀ i,q i=true->p i=true): ∀ c:C,c.q_ p=false->c.q_ q=false
 | .n_ i,k=>by grind [C.q_]
 | .ptr i _,k=>by grind [C.q_]
 | .rsl i _ _ _,k=>by grind [C.q_]
 | .bsl i _ _,k=>by grind [C.q_]
 | .bld i _,k=>by grind [C.q_]
 | .agP i,k=>by grind [C.q_]
 | .clo _ cs,k=>by simp only [C.q_]at k ⊢;exact FC h cs k
 | .bmv _ cs,k=>by simp only [C.q_]at k ⊢;exact FC h cs k
 | .int ..,_=>rfl
 | .bool _,_=>rfl
 | .str _,_=>rfl
 | .sl ..,_=>rfl
 | .acm ..,_=>rfl
 | .acV,_=>rfl
 | .aaJ,_=>rfl
 | .Tv,_=>rfl
 | .fn _,_=>rfl
 | .held,_=>rfl
 | .any,_=>rfl
 | .agZ ..,_=>rfl
 | .mp _,_=>rfl
 | .isl ..,_=>rfl
theorem FC {p q:Ah->Bool} (h: ∀ i,q i=true->p i=true): ∀ cs:List C,CD p cs=false->CD q cs=false
 | [],_=>rfl
 | c::cs,k=>by simp only [CD,or_eq_false_iff]at k ⊢;exact⟨eG h c k.1,FC h cs k.2⟩
end
mutual
theorem FD {p q:Ah->Bool} (h: ∀ i,q i=true->p i=true): ∀ v:V,v.q_ p=false->v.q_ q=false
 | .c x,k=>by grind [V.q_,eG]
 | .agg cs,k=>by grind [V.q_,FC]
 | .tup vs,k=>by simp only [V.q_]at k ⊢;exact Vp h vs k
 | .g _ v,k=>by simp only [V.q_]at k ⊢;exact FD h v k
 | .undef,_=>by simp only [V.q_]
theorem Vp {p q:Ah->Bool} (h: ∀ i,q i=true->p i=true): ∀ vs:List V,NK p vs=false->NK q vs=false
 | [],_=>by simp only [NK]
 | v::vs,k=>by simp only [NK,or_eq_false_iff]at k ⊢;exact⟨FD h v k.1,Vp h vs k.2⟩
end
structure AR where
 k:Nat
 r:Ah
 E:TypeId
 n:Nat
 len:Nat
 cs:List C
def AR.ent (x:AR):AB:=⟨x.r,some (x.E,x.n,x.len),x.cs,true⟩
def Iv (l:List C) (rs:List AR):List C:=rs.foldl (fun l x=>l.set x.k (.isl x.E x.n x.len x.cs)) l
structure eH (p:Ah->Bool) (id:Ah) (ns:List Ah) (new:AB) (A B:St):Prop where
 len:B.tm.length=A.tm.length
 tm: ∀ i,B.tm.getD i .undef = .undef \/(B.tm.getD i .undef =A.tm.getD i .undef /\(A.tm.getD i .undef).q_ p=false)
 arW:B.gh.length=A.gh.length
 gh: ∀ i,B.gh.getD i .undef = .undef \/(B.gh.getD i .undef =A.gh.getD i .undef /\(A.gh.getD i .undef).q_ p=false)
 so: ∀ x∈B.so,x=new\/x∈A.so/\x.id ≠ id/\x.id∉ns/\(x.pu=true\/CD p x.cs=false)
 nd:(B.so.map (·.id)).Nodup
 pre:B.pre=A.pre
section
variable {F:Fr} {a:Act} {w:World}
theorem R.ai7 {id:Ah} {b:Nat} {p:Ah->Bool}: ∀ (rs:List AR) {st:St} {G:AJ} {e:AB},R F st a w G->st.Tz id=some e->G.y_ id=some b->
 (∀ x∈rs,st.look x.r=some x.ent/\x.k<e.cs.length/\(∀ i,pD x.r id i=true->p i=true)/\ ∃ v,w.cell? ⟨b,x.k,none⟩=some v/\G.own x.r=some v)->(rs.map (·.r)).Nodup ->
 ∀ B:St,eH p id (rs.map (·.r)) ⟨id,e.row,Iv e.cs rs,true⟩ st B-> ∃ G',R F B a w G'
 | [],st,G,e,h,hl,hb,_,_,B,hB=>by
   obtain⟨hm,hid,_,_,hpu,_⟩:=h.abx hl;refine⟨G,h.less ⟨hB.len,fun i=>(hB.tm i).imp (fun q=>q) (fun q=>q.1),fun x hx=>?_,fun _=>hB.nd,⟨hB.arW,fun i=>(hB.gh i).imp (fun q=>q) (fun q=>q.1)⟩,hB.pre⟩⟩;rcases hB.so x hx with rfl | ⟨q,_⟩
   ·have:(⟨id,e.row,Iv e.cs [],true⟩:AB)=e:=by obtain⟨i,r,cs,pu⟩:=e;simp only at hid hpu;subst hid hpu;rfl
    grind
   ·exact q
 | x::rs,st,G,e,h,hl,hb,hx,hnd,B,hB=>by
   simp only [map_cons,nodup_cons]at hnd;obtain⟨x1,x2,x3,v,x4,x5⟩:=hx x (by simp);obtain⟨hm,hid,hd,hmk,hpu,_⟩:=h.abx hl;obtain⟨hmr,ahT⟩:=Bi x1;have aoi:=Fp x1;have amS:C2 x.r=false:=by rw [<-ahT];exact(h.deep _ hmr).1
   have amP:x.r ≠ id:=(by grind);obtain⟨G1,g1,g2,g3,g4⟩:=h.apz hl x1 rfl rfl hb x4 x5 x2;have amT: ∀ d∈st.so,d.id ≠ x.r->d.id ≠ id->(d.pu=true\/CD p d.cs=false)->d∈((st.so.filter (fun d=>d.id != x.r)).map (AB.j_ (pD x.r id))).map (aar id e.row (e.cs.set x.k (.isl x.E x.n x.len x.cs))):=by
    intro d hd' q1 q2 q3;refine mem_map.2 ⟨d,mem_map.2 ⟨d,(by grind),?_⟩,D7 q2⟩;obtain⟨i,r,cs,pu⟩:=d;cases pu with
    | true=>rfl
    | false=>
      rcases q3 with q3 | q3
      ·cases q3
      ·have:=FC x3 cs q3;simp only [AB.j_,AB.mk.injEq,true_and,and_true];have key: ∀ l:List C,CD (pD x.r id) l=false->l.map (Cj (pD x.r id))=l:=by intro l;induction l<;>simp_all [CD,Cj]
       grind
   have hL1:(st.j_ (pD x.r id) (((st.so.filter (fun d=>d.id != x.r)).map (AB.j_ (pD x.r id))).map (aar id e.row (e.cs.set x.k (.isl x.E x.n x.len x.cs))))).Tz id=some ⟨id,e.row,e.cs.set x.k (.isl x.E x.n x.len x.cs),true⟩:=by
    refine g1.U_ ?_ rfl hd;refine mem_map.2 ⟨e,mem_map.2 ⟨e,(by grind),?_⟩,?_⟩
    ·obtain⟨i,r,cs,pu⟩:=e;simp only at hpu;subst hpu;rfl
    ·rw [D8 hid,hid,hpu];rfl
   refine R.ai7 (p:=p) rs g1 hL1 (g3.trans hb) (fun y hy=>?_) hnd.2 B ?_
   ·obtain⟨y1,y2,y3,v',y4,y5⟩:=hx y (by simp [hy]);obtain⟨hmy,aDF⟩:=Bi y1;have hyr:y.r ≠ x.r:=(by grind);have hyd:=Fp y1;have aC8:y.r ≠ id:=(by grind);refine⟨g1.aef (amT _ hmy hyr aC8 (.inl rfl)) rfl hyd rfl,by grind,y3,v',y4,?_⟩;have hpf:pD x.r id y.r=false:=by
     have aLI:C2 y.r=false:=by rw [<-aDF];exact(h.deep _ hmy).1
     grind [pD,Gi]
    grind
   ·refine⟨by simp [St.j_,hB.len],fun i=>?_,by simp [St.j_,hB.arW],fun i=>?_,fun z hz=>?_,hB.nd,hB.pre⟩
    ·rcases hB.tm i with q | ⟨q1,q2⟩
     ·exact .inl q
     ·right;simp only [St.j_];rw [FN (by simp [Bv,V.q_])];have:=FD x3 _ q2;rw [show Bv (pD x.r id) (st.tm.getD i .undef)=st.tm.getD i .undef from if_neg (by rw [this];exact Bool.false_ne_true)];grind
    ·rcases hB.gh i with q | ⟨q1,q2⟩
     ·exact .inl q
     ·right;simp only [St.j_];have e1:(st.gh.map (Bv (pD x.r id))).getD i .undef =Bv (pD x.r id) (st.gh.getD i .undef):=by grind [Bv]
      have:=FD x3 _ q2;rw [e1,show Bv (pD x.r id) (st.gh.getD i .undef)=st.gh.getD i .undef from if_neg (by rw [this];exact Bool.false_ne_true)];grind
    ·rcases hB.so z hz with q | ⟨q1,q2,q3,q4⟩
     ·grind [Iv]
     ·right;simp only [map_cons,mem_cons,not_or]at q3;exact⟨amT z q1 q3.1 q2 q4,q2,q3.2,q4⟩
end
end Go.PL
namespace Go.PL
open Go Go.RowKit
def NW:Op->Bool
 | .move _=>true
 | .nilCheck _=>true
 | .fieldAddr .. =>true
 | .indexAddr .. =>true
 | .unOp .. =>true
 | .extract .. =>true
 | _=>false
theorem uD {P:Program} {F:Fr} {st:St} {a:Act} {w:World} {G:AJ} (h:R F st a w G) {g:Bool} (hg:g=true) {o:Oper} (hA:NW o.op=true) (hs:(rd P st g o.op).1):
 ∃ v,Ad w G (rd P st g o.op).2 v/\ ∀ w',(execOp a.eval o).run P w'= .ok (.value v) w':=by
 cases ho:o.op<;>simp only [rd,ho,Z_]at hs ⊢ <;>try (first | exact hs.elim | (rw [ho]at hA;cases hA;done))
 case move x=>exact⟨_,h.arg hg hs,fun w'=>by simp [execOp,ho]⟩
 case nilCheck x=>
  obtain⟨h1,h2⟩:=hs;have hx:=h.arg hg h1;unfold bL at h2 ⊢;split at h2
  ·rename_i id off e;rw [e]at hx;simp only [Ad,Af]at hx ⊢;obtain⟨b,hb,hv⟩:=hx;exact⟨_,⟨b,hb,rfl⟩,fun w'=>by simp [execOp,ho,hv]⟩
  ·rename_i cs off e;rw [e]at hx;simp only [Ad,Af]at hx ⊢;obtain⟨hp,b,o',hv,k1⟩:=hx;exact⟨_,⟨hp,b,o',rfl,k1⟩,fun w'=>by simp [execOp,ho,hv]⟩
  ·rename_i f e;rw [e]at hx;simp only [Ad,Af]at hx ⊢;exact⟨_,rfl,fun w'=>by simp [execOp,ho,hx]⟩
  ·rename_i f cs e;rw [e]at hx;simp only [Ad,Af]at hx ⊢;obtain⟨arr,hv,hr⟩:=hx;exact⟨_,⟨arr,rfl,hr⟩,fun w'=>by simp [execOp,ho,hv]⟩
  ·rename_i f cs e;rw [e]at hx;simp only [Ad,Af]at hx ⊢;obtain⟨arr,hv,hr⟩:=hx;exact⟨_,⟨arr,rfl,hr⟩,fun w'=>by simp [execOp,ho,hv]⟩
  grind
 case unOp op t x=>
  obtain⟨v,q1,q2⟩:=dx (P:=P) (h.arg hg hs.1) hs.2;simp_all [execOp]
 case extract x i=>
  obtain⟨h1,h2⟩:=hs;have hx:=h.arg hg h1;unfold oI at h2 ⊢;split at h2
  ·rename_i vs e;rw [e]at hx;simp only [Ad]at hx;obtain⟨arr,hv,hr⟩:=hx;obtain⟨v,q1,q2⟩:=IW hr i h2;simp_all [execOp,Instr.extract]
  grind
 case fieldAddr s x f=>
  obtain⟨v,q1,q2⟩:=Lx (P:=P) (h.arg hg hs.1) hs.2;simp_all [execOp]
 case indexAddr t x i=>
  obtain⟨v,q1,q2⟩:=Ly (P:=P) h (h.arg hg hs.1) (h.arg hg hs.2.1) hs.2.2;simp_all [execOp]
theorem pA {P:Program} {F:Fr} {st:St} {a:Act} {w:World} {G:AJ} (h:R F st a w G) {g:Bool} (hg:g=true) {o:Oper} (hA:NW o.op=true) (hs:(DQ P st g o.op).1):
 ∃ v,Ad w G (DQ P st g o.op).2 v/\ ∀ w',(execOp a.eval o).run P w'= .ok (.value v) w':=by
 have e:DQ P st g o.op=rd P st g o.op:=by
  cases ho:o.op<;>first
   | rfl
   | (rw [ho]at hA;cases hA)
 grind [uD]
def DL (o:Oper):Nat:=match o.guard,o.dst with
 | none,some _=>match NW o.op with
   | true=>2
   | false=>match o.op with
     | .load .. =>1
     | .slice .. =>1
     | _=>0
 | _,_=>0
def NX (ops:Array Oper) (i:Nat):Nat:=match ops[i]? with
 | some o=>DL o
 | none=>0
def uE (P:Program) (z:Prop) (o:Oper) (a:Act) (w:World):Prop:=
 ∀ d,o.dst=some d-> ∃ u,(z\/u=a.tmps.getD d Go.undef)/\ ∀ w',(DL o=2\/CY w w')->(execOp a.eval o).run P w'= .ok (.value u) w'
def Frc (ops:Array Oper) (pr:List (List Nat)) (i:Nat) (L:Array Bool):Prop:= ∃ k,L.getD k false=true/\NX ops k=0/\i∈pr.getD k []
def Pu (ops:Array Oper) (lz:List Nat):Bool:=lz.all fun p=>match ops[p]? with
 | some o=>Nat.beq (DL o) 1&&match o.dst with
   | some d=>(List.range ops.size).all fun k=>Nat.beq k p||match ops[k]? with
     | some ok=>(Nat.beq (DL ok) 0|| !(ok.looksAt ops).contains d)&&match ok.dst with
       | some e=> !Nat.beq e d
       | none=>true
     | none=>true
   | none=>false
 | none=>false
def bJ (P:Program) (ops:Array Oper) (pr:List (List Nat)) (lz:List Nat) (L:Array Bool) (a:Act) (w:World):Prop:=
 ∀ i o,ops[i]? =some o->DL o ≠ 0->L.getD i false=true-> ¬Frc ops pr i L->uE P (i∈lz) o a w
def Up1 (P:Program) (ops:Array Oper) (pr:List (List Nat)) (lz:List Nat) (L:Array Bool) (w:World) (a a':Act):Prop:=
 ∃ p o d u,p∈lz/\ops[p]? =some o/\o.dst=some d/\L.getD p false=true/\ ¬Frc ops pr p L/\(execOp a.eval o).run P w= .ok (.value u) w/\a'=a.put (some d) u
inductive Ups (P:Program) (ops:Array Oper) (pr:List (List Nat)) (lz:List Nat) (L:Array Bool) (w:World) (a:Act):Act->Prop
 | refl:Ups P ops pr lz L w a a
 | step {b c:Act}:Ups P ops pr lz L w a b->Up1 P ops pr lz L w b c->Ups P ops pr lz L w a c
def D1 (P:Program) (ops:Array Oper) (Q:Exit->Act->World->Prop) (pr:List (List Nat)) (lz:List Nat):Nat->Array Bool->Act->World->Prop
 | 0,L,a,w=>Region.ready .any ops L=[]/\Q .normal a w
 | fuel+1,L,a,w=>(Region.ready .any ops L=[]->Q .normal a w)/\
   ∀ i∈Region.ready .any ops L,wpOp P ops Q i (fun a' w'=> ∀ a'',Ups P ops pr lz (L.setIfInBounds i true) w' a' a''->bJ P ops pr lz (L.setIfInBounds i true) a'' w'/\D1 P ops Q pr lz fuel (L.setIfInBounds i true) a'' w') a w
def TT (ops:Array Oper) (pr:List (List Nat)):Bool:=Region.noSelect ops&&(gM ops pr&&(List.range ops.size).all fun p=>match ops[p]? with
 | none=>true
 | some o=>match DL o,o.dst with
   | 0,_=>true
   | _,none=>false
   | _,some d=> !(o.looksAt ops).contains d&&(List.range ops.size).all fun k=>Nat.beq k p||match ops[k]? with
     | none=>true
     | some ok=>(Jv (pr.getD p []) k||((Nat.beq (DL ok) 0&&Jv (pr.getD k []) p)||match ok.dst with
      | some e=> !(o.looksAt ops).contains e&& !Nat.beq e d
      | none=>true))&&(Jv (pr.getD k []) p||(Jv (pr.getD p []) k||o.apart ops ok)))
section
variable {P:Program} {ops:Array Oper} {Q:Exit->Act->World->Prop} {pr:List (List Nat)} {lz:List Nat}
theorem Yt: ∀ (fuel:Nat) (L:Array Bool) (a:Act) (w:World),D1 P ops Q pr lz fuel L a w->wpAny P .any ops Q fuel L a w
 | 0,_,_,_,h=>h
 | fuel+1,_,_,_,h=>⟨h.1,fun i hi=>wpOp_mono (fun a' w' h'=>Yt fuel _ a' w' (h' a' .refl).2) (h.2 i hi)⟩
theorem LG {o:Oper} (h:DL o ≠ 0):o.guard=none/\ ∃ d,o.dst=some d:=by unfold DL at h;grind
theorem He (h:TT ops pr=true):Region.noSelect ops=true/\gM ops pr=true/\ ∀ p o,ops[p]? =some o->DL o ≠ 0-> ∀ d,o.dst=some d->d∉o.looksAt ops/\ ∀ k ok,ops[k]? =some ok->k ≠ p->
 (k∈pr.getD p []\/(DL ok=0/\p∈pr.getD k [])\/ ∀ e,ok.dst=some e->e∉o.looksAt ops/\e ≠ d)/\(p∈pr.getD k []\/k∈pr.getD p []\/o.apart ops ok=true):=by
 simp only [TT,and_eq_true,all_eq_true,mem_range]at h;refine⟨h.1,h.2.1,fun p o hp hc d hd=>?_⟩;have hlt:p<ops.size:=(by grind);have:=h.2.2 p hlt;simp only [hp,hd]at this;simp only [and_eq_true,not_eq_true',all_eq_true,mem_range]at this;refine⟨by grind,fun k ok hk hne=>?_⟩;have hkl:k<ops.size:=(by grind);have:=this.2 k hkl;simp only [hk,or_eq_true,and_eq_true,Fg,beq_eq]at this;rcases this with q | ⟨q1,q2⟩
 ·grind
 ·refine⟨q1.imp id fun q=>q.imp id fun q e he=>?_,q2⟩;rw [he]at q;simp only [and_eq_true,not_eq_true']at q;refine⟨by grind,fun e=>?_⟩;simp_all
def xq (pr:List (List Nat)) (L:Array Bool):Prop:= ∀ k,L.getD k false=true-> ∀ j∈pr.getD k [],L.getD j false=true
theorem Aih (hp:gM ops pr=true): ∀ (k:Nat),k<ops.size-> ∀ j∈pr.getD k [],j<k:=by
 intro k;induction k using Nat.strongRecOn with
 | ind k ih=>
   intro hk j hj;have hp':=hp;simp only [gM,all_eq_true,mem_range,and_eq_true,or_eq_true,any_eq_true,Fg,blt_eq]at hp';grind
theorem Aii {L:Array Bool} {i:Nat} (h:L.getD i true=false):L.getD i false=false:=by grind
theorem ajE {L:Array Bool} {i:Nat} (h:L.getD i true=false):(L.setIfInBounds i true).getD i false=true:=by
 rcases Nat.lt_or_ge i L.size with q | q
 all_goals simp_all
theorem DB {L:Array Bool} {i k:Nat} (h:(L.setIfInBounds i true).getD k false=true):k=i\/L.getD k false=true:=by
 by_cases q:i=k
 all_goals simp_all
theorem FW (hp:gM ops pr=true) {L:Array Bool} (hd:xq pr L) {i:Nat} (h:i∈Region.ready .any ops L):i<ops.size/\L.getD i true=false/\ ∀ j∈pr.getD i [],L.getD j false=true:=by
 obtain⟨h0,o,ho,aiN⟩:=mem_ready.1 h;have hlt:i<ops.size:=(by grind);refine⟨hlt,h0,fun j hj=>?_⟩;have hp':=hp;simp only [gM,all_eq_true,mem_range,and_eq_true,or_eq_true,any_eq_true,Fg,blt_eq]at hp';have dir: ∀ k∈kU ops i,L.getD k false=true:=fun k hk=>by unfold kU at hk;grind
 rcases (hp' i hlt).2 j hj with q | ⟨m,hm,q⟩
 ·grind
 ·exact hd m (dir m hm) j q
theorem xq.set (hp:gM ops pr=true) {L:Array Bool} (hd:xq pr L) {i:Nat} (h:i∈Region.ready .any ops L):xq pr (L.setIfInBounds i true):=fun k hk j hj=>by
 rcases DB hk with rfl | hk
 ·exact getD_set_true ((FW hp hd h).2.2 j hj)
 ·exact getD_set_true (hd k hk j hj)
theorem lD (a:Act) (d:Nat) (v:Value):a.put (some d) ((a.put (some d) v).tmps.getD d Go.undef)=a.put (some d) v:=by
 rcases Nat.lt_or_ge d a.tmps.size with q | q
 all_goals simp_all [Act.put,Array.setIfInBounds_eq_of_size_le]
theorem Em {a:Act} {x:Option Tmp} {v:Value} {d:Nat} (h: ∀ e,x=some e->e ≠ d):(a.put x v).tmps.getD d Go.undef=a.tmps.getD d Go.undef:=by
 cases x with
 | none=>rfl
 | some e=>
   have:=h e rfl;simp_all [Act.put]
theorem uE.anY {z:Prop} {o:Oper} {a:Act} {w:World} {x:Option Tmp} {v:Value} (hs: ∀ cs b,o.op ≠ .select cs b) (h1: ∀ e,x=some e->e∉o.looksAt ops) (h2: ∀ d e,o.dst=some d->x=some e->e ≠ d):uE P z o (a.put x v) w↔uE P z o a w:=by unfold uE;refine forall_congr' fun d=>forall_congr' fun hd=>?_;rw [execOp_put o hs a x v h1,Em (by grind)]
theorem AaN (a:Act) (d:Nat) (v u:Value):(a.put (some d) v).put (some d) u=a.put (some d) u:=by simp only [Act.put,Array.setIfInBounds_setIfInBounds]
theorem xr (a:Act) {d e:Nat} (h:e ≠ d) (v u:Value):(a.put (some d) v).put (some e) u=(a.put (some e) u).put (some d) v:=by simp_all [Act.put,Array.setIfInBounds_comm]
theorem I5 (h:Pu ops lz=true) {p:Nat} (hp:p∈lz) {o:Oper} (ho:ops[p]? =some o):DL o=1/\ ∀ d,o.dst=some d-> ∀ k ok,ops[k]? =some ok->k ≠ p->(DL ok ≠ 0->d∉ok.looksAt ops)/\ ∀ e,ok.dst=some e->e ≠ d:=by
 simp only [Pu,all_eq_true]at h;have:=h p hp;rw [ho]at this;simp only [and_eq_true,beq_eq]at this;refine⟨this.1,fun d hd k ok hk hne=>?_⟩;have h2:=this.2;rw [hd]at h2;simp only [all_eq_true,mem_range]at h2;have h3:=h2 k (Array.getElem?_eq_some_iff.1 hk).1;rw [hk]at h3;simp only [or_eq_true,and_eq_true,beq_eq,not_eq_true']at h3;rcases h3 with q | ⟨q1,q2⟩
 ·grind
 ·refine⟨fun hc=>?_,fun e he=>?_⟩
  ·grind
  ·rw [he]at q2;intro e';simp_all
theorem bJ.up1 (hst:TT ops pr=true) (hlz:Pu ops lz=true) {L:Array Bool} {a a':Act} {w:World} (h:bJ P ops pr lz L a w) (hu:Up1 P ops pr lz L w a a'):bJ P ops pr lz L a' w:=by
 obtain⟨hns,hp,ae3⟩:=He hst;have abX:=Region.noSelect_spec hns;obtain⟨p,o,d,u,h1,h2,h3,h4,h5,h6,rfl⟩:=hu;obtain⟨k1,k2⟩:=I5 hlz h1 h2;have aaK:=(ae3 p o h2 (by omega) d h3).1;intro q oq hq hc hl hf;by_cases hqp:q=p
 ·subst hqp;rw [h2]at hq;injection hq with hq;subst hq;intro d' hd';obtain⟨u',m1,m2⟩:=h q o h2 hc hl hf d' hd';refine⟨u', .inl h1,fun w' hw'=>?_⟩;rw [execOp_put o (by grind) a (some d) u (fun e he=>by injection he with he;exact he▸aaK)];grind
 ·obtain⟨m1,m2⟩:=k2 d h3 q oq hq hqp;exact(uE.anY (ops:=ops) (by grind) (by grind) (by grind)).2 (h q oq hq hc hl hf)
theorem bJ.ups (hst:TT ops pr=true) (hlz:Pu ops lz=true) {L:Array Bool} {a a':Act} {w:World} (h:bJ P ops pr lz L a w) (hu:Ups P ops pr lz L w a a'):bJ P ops pr lz L a' w:=by
 induction hu with
 | refl=>exact h
 | step _ h1 ih=>exact ih.up1 hst hlz h1
theorem Ups.trans {L:Array Bool} {a b c:Act} {w:World} (h:Ups P ops pr lz L w a b) (h2:Ups P ops pr lz L w b c):Ups P ops pr lz L w a c:=by
 induction h2 with
 | refl=>exact h
 | step _ h1 ih=>exact ih.step h1
theorem Ups.put (hst:TT ops pr=true) (hlz:Pu ops lz=true) {i:Nat} {oi:Oper} {v:Value} (hi:ops[i]? =some oi) (hc:DL oi ≠ 0) {L:Array Bool} (hdc:xq pr L) (hun:L.getD i false=false) {a b:Act} {w:World} (h:Ups P ops pr lz L w a b):Ups P ops pr lz (L.setIfInBounds i true) w (a.put oi.dst v) (b.put oi.dst v):=by
 obtain⟨hns,hp,ae3⟩:=He hst;have abX:=Region.noSelect_spec hns;obtain⟨_,d,hd⟩:=LG hc;induction h with
 | refl=>exact .refl
 | step _ hu ih=>
   refine ih.step ?_;obtain⟨p,o,e,u,h1,h2,h3,h4,h5,h6,rfl⟩:=hu;obtain⟨k1,k2⟩:=I5 hlz h1 h2;have hne:i ≠ p:=(by grind);have hde:=(k2 e h3 i oi hi hne).2 d hd;have hcN:NX ops i ≠ 0:=by grind [NX]
   have ay7:d∉o.looksAt ops:=by
    rcases ((ae3 p o h2 (by omega) e h3).2 i oi hi hne).1 with q | q | q
    ·have:=hdc p h4 i q;grind
    all_goals grind
   refine⟨p,o,e,u,h1,h2,h3,getD_set_true h4,fun⟨k,hk,hk0,hpk⟩=>?_,?_,?_⟩
   ·rcases DB hk with rfl | hk
    ·grind
    ·exact h5 ⟨k,hk,hk0,hpk⟩
   ·rw [execOp_put o (by grind) _ oi.dst v (fun e he=>by rw [hd]at he;injection he with he;exact he▸ay7)];exact h6
   ·rw [hd,xr _ (Ne.symm hde)]
theorem Ad2 (hst:TT ops pr=true) (hlz:Pu ops lz=true) {i:Nat} {oi:Oper} {v:Value} (hi:ops[i]? =some oi) (hc:DL oi ≠ 0) (hQ: ∀ c a w, ¬Q (.panic c) a w):
 ∀ (fuel:Nat) (L:Array Bool) (a:Act) (w:World),xq pr L->i∈Region.ready .any ops L->
   (∀ a'',Ups P ops pr lz (L.setIfInBounds i true) w (a.put oi.dst v) a''->bJ P ops pr lz (L.setIfInBounds i true) a'' w/\D1 P ops Q pr lz fuel (L.setIfInBounds i true) a'' w)->D1 P ops Q pr lz (fuel+1) L a w:=by
 obtain⟨hns,hp,ae3⟩:=He hst;have abX:=Region.noSelect_spec hns;obtain⟨hgd,d,hd⟩:=LG hc;have aaK:=(ae3 i oi hi hc d hd).1;have hcN:NX ops i ≠ 0:=by grind [NX]
 have wanted: ∀ a:Act,Region.wanted oi (yielded ops a.tmps)=true:=fun a=>FQ hgd _;have axT: ∀ (L:Array Bool),xq pr L->i∈Region.ready .any ops L-> ¬Frc ops pr i (L.setIfInBounds i true):=fun L hdc hr ⟨k,hk,hk0,hik⟩=>by
  obtain⟨_,hun,_⟩:=FW hp hdc hr;rcases DB hk with rfl | hk
  ·grind
  ·have:=hdc k hk i hik;grind
 have self: ∀ (L:Array Bool) (a:Act) (w:World) (fuel:Nat),xq pr L->i∈Region.ready .any ops L->(∀ a'',Ups P ops pr lz (L.setIfInBounds i true) w (a.put oi.dst v) a''->bJ P ops pr lz (L.setIfInBounds i true) a'' w/\D1 P ops Q pr lz fuel (L.setIfInBounds i true) a'' w)->
  wpOp P ops Q i (fun a' w'=> ∀ a'',Ups P ops pr lz (L.setIfInBounds i true) w' a' a''->bJ P ops pr lz (L.setIfInBounds i true) a'' w'/\D1 P ops Q pr lz fuel (L.setIfInBounds i true) a'' w') a w:=fun L a w fuel hdc hr H=>by
  obtain⟨_,hun,_⟩:=FW hp hdc hr;obtain⟨u,hz,hu⟩:=(H _ .refl).1 i oi hi hc (ajE hun) (axT L hdc hr) d hd;have hex:=hu w (.inr (CY.refl w));have aDJ:=hex;rw [execOp_put oi (by grind) a oi.dst v (fun e he=>by rw [hd]at he;injection he with he;exact he▸aaK)]at hex;have hy:YieldsIf P ops (fun w'=>w'=w) oi u a:= .inl ⟨wanted a,fun w' e=>by subst e;exact hex⟩;refine hy.wpOp hi rfl ?_;rcases hz with hz | hz
  ·intro a'' arU;refine H a'' (Ups.trans (.step .refl ?_) arU);exact⟨i,oi,d,u,hz,hi,hd,ajE hun,axT L hdc hr,aDJ,by rw [hd,AaN]⟩
  ·subst hz;intro a'' arU;rw [hd,lD]at arU;grind
 intro fuel;induction fuel with
 | zero=>
   intro L a w hdc hr H;refine⟨(by grind),fun j hj=>?_⟩;by_cases hji:j=i
   ·simp_all
   ·have:=ready_mono hj hji;rw [(H _ .refl).2.1]at this;cases this
 | succ fuel ih=>
   intro L a w hdc hr H;refine⟨(by grind),fun j hj=>?_⟩;by_cases hji:j=i
   ·simp_all
   ·have h1:=(H _ .refl).2.2 j (ready_mono hj hji);obtain⟨hjl,aza,azb⟩:=FW hp hdc hj;obtain⟨hil,aDB,azc⟩:=FW hp hdc hr;have hoj:ops[j]? =some ops[j]:=(by grind);have nij:i∉pr.getD j []:=(by grind);have nji:j∉pr.getD i []:=(by grind);have hap:oi.apart ops ops[j]=true:=by grind
    have hy:YieldsIf P ops (fun _=>False) oi v a:= .inl ⟨wanted a,fun _ h=>h.elim⟩;have h2:=wpOp_putIf hoj hap (fun cs b=>abX i oi cs b hi) (fun cs b=>abX j _ cs b hoj) (fun c a w q=>absurd q (hQ c _ w)) hy h1;have hdj:=hdc.set hp hj;have hir:i∈Region.ready .any ops (L.setIfInBounds j true):=ready_mono hr (Ne.symm hji);have aDC:(L.setIfInBounds j true).getD i false=false:=by rw [getD_set_ne false hji];grind
    refine wpOp_mono (fun a' w' ⟨_,h34⟩=>?_) h2;rw [Array.setIfInBounds_comm _ _ (Ne.symm hji)]at h34;intro a3 ha3;have H3: ∀ a'',Ups P ops pr lz ((L.setIfInBounds j true).setIfInBounds i true) w' (a3.put oi.dst v) a''->bJ P ops pr lz ((L.setIfInBounds j true).setIfInBounds i true) a'' w'/\D1 P ops Q pr lz fuel ((L.setIfInBounds j true).setIfInBounds i true) a'' w':=fun a'' arU=>
     h34 a'' ((ha3.put hst hlz hi hc hdj aDC).trans arU)
    refine⟨fun p op hop hcp hpl hpf=>?_,(by grind)⟩;have h3:=(H3 _ .refl).1;have hne:p ≠ i:=(by grind);have nip:i∉pr.getD p []:=fun q=>by have:=hdj p hpl i q;grind
    obtain⟨_,dp,hdp⟩:=LG hcp;have hpd: ∀ e,oi.dst=some e->e∉op.looksAt ops/\e ≠ dp:=by
     rcases ((ae3 p op hop hcp dp hdp).2 i oi hi (Ne.symm hne)).1 with q | q | q
     ·grind
     all_goals grind
    have:=h3 p op hop hcp (getD_set_true hpl) (fun⟨k,hk,hk0,hpk⟩=>by
     rcases DB hk with rfl | hk
     ·grind
     ·exact hpf ⟨k,hk,hk0,hpk⟩)
    exact(uE.anY (ops:=ops) (by grind) (by grind) (by grind)).1 this
theorem bJ.take (hst:TT ops pr=true) {i:Nat} {oi:Oper} {v:Value} (hi:ops[i]? =some oi) (hc:DL oi ≠ 0) {L:Array Bool} {a:Act} {w:World} (hdc:xq pr L) (hr:i∈Region.ready .any ops L)
 (hS:bJ P ops pr lz L a w) (hW:uE P (i∈lz) oi (a.put oi.dst v) w):bJ P ops pr lz (L.setIfInBounds i true) (a.put oi.dst v) w:=by
 obtain⟨hns,hp,ae3⟩:=He hst;have abX:=Region.noSelect_spec hns;obtain⟨hil,aDB,azc⟩:=FW hp hdc hr;intro p op hop hcp hpl hpf;rcases DB hpl with rfl | avT
 ·grind
 ·clear hpl;have hpl:=avT;have hne:p ≠ i:=(by grind);have nip:i∉pr.getD p []:=fun q=>by have:=hdc p hpl i q;grind
  obtain⟨_,dp,hdp⟩:=LG hcp;have hpd: ∀ e,oi.dst=some e->e∉op.looksAt ops/\e ≠ dp:=by grind
  refine(uE.anY (ops:=ops) (by grind) (by grind) (by grind)).2 ?_;exact hS p op hop hcp hpl (fun⟨k,hk,hk0,hpk⟩=>hpf ⟨k,getD_set_true hk,hk0,hpk⟩)
theorem AaO {o:Oper} {a:Act} {w:World} {K:Act->World->Prop} (h:o.wp P a w K Q):o.wp P a w (fun a' w'=>K a' w'/\ ∃ ds u,a'=({a with defers:=ds}:Act).put o.dst u) Q:=by
 unfold Oper.wp at *;generalize (execOp a.eval o).run P w=r at *;cases r with
 | ok n w'=>
   cases n<;>simp only [Oper.upon]at h ⊢ <;>first
    | grind
    | grind
    | grind
    | grind
    | exact h
 | halt x w'=>cases x<;>simp only [Oper.upon]at h ⊢ <;>exact h
theorem pB (hst:TT ops pr=true) (hlz:Pu ops lz=true) {j:Nat} {oj:Oper} (hj:ops[j]? =some oj) (hc:DL oj=0) {L:Array Bool} {a:Act} {w:World} (hdc:xq pr L) (hrj:j∈Region.ready .any ops L) {fuel:Nat} (hS:bJ P ops pr lz L a w) {K:Act->World->Prop}
 (hw:if Region.wanted oj (yielded ops a.tmps)=true then oj.wp P a w K Q else K (a.put oj.dst undef) w)
 (hB: ∀ a' w',K a' w'-> ∀ p op,ops[p]? =some op->DL op=1->L.getD p false=true-> ¬Frc ops pr p (L.setIfInBounds j true)->(∀ w1,CY w w1->(execOp a'.eval op).run P w1=(execOp a.eval op).run P w1)->(∀ d,op.dst=some d->a'.tmps.getD d Go.undef=a.tmps.getD d Go.undef)->uE P (p∈lz) op a w->uE P (p∈lz) op a' w')
 (hU: ∀ a' w' a'',K a' w'->Up1 P ops pr lz (L.setIfInBounds j true) w' a' a''->K a'' w')
 (hK: ∀ a' w',K a' w'->(∀ d',oj.dst ≠ some d'->(∀ (p:Nat) (op:Oper),ops[p]? =some op->DL op ≠ 0->op.dst ≠ some d')->a'.tmps.getD d' Go.undef=a.tmps.getD d' Go.undef)->bJ P ops pr lz (L.setIfInBounds j true) a' w'->D1 P ops Q pr lz fuel (L.setIfInBounds j true) a' w'):
 wpOp P ops Q j (fun a' w'=> ∀ a'',Ups P ops pr lz (L.setIfInBounds j true) w' a' a''->bJ P ops pr lz (L.setIfInBounds j true) a'' w'/\D1 P ops Q pr lz fuel (L.setIfInBounds j true) a'' w') a w:=by
 obtain⟨hns,hp,ae3⟩:=He hst;have abX:=Region.noSelect_spec hns;obtain⟨hjl,aza,azb⟩:=FW hp hdc hrj;have key: ∀ a' w',K a' w'->(∃ ds u,a'=({a with defers:=ds}:Act).put oj.dst u)-> ∀ a'',Ups P ops pr lz (L.setIfInBounds j true) w' a' a''->bJ P ops pr lz (L.setIfInBounds j true) a'' w'/\D1 P ops Q pr lz fuel (L.setIfInBounds j true) a'' w':=by
  intro a' w' hk ⟨ds,u,ha'⟩;have hSS:bJ P ops pr lz (L.setIfInBounds j true) a' w':=by
   intro p op hop hcp hpl hpf;have hne:p ≠ j:=(by grind);have hpl:L.getD p false=true:=by grind [DB]
   have nip:j∉pr.getD p []:=fun q=>by have:=hdc p hpl j q;grind
   obtain⟨_,dp,hdp⟩:=LG hcp;have hpd: ∀ e,oj.dst=some e->e∉op.looksAt ops/\e ≠ dp:=by
    rcases ((ae3 p op hop hcp dp hdp).2 j oj hj (Ne.symm hne)).1 with q | q | q
    ·grind
    ·exact absurd ⟨j,ajE aza,by unfold NX;rw [hj];exact hc,q.2⟩ hpf
    ·exact q
   have hold: ¬Frc ops pr p L:=fun⟨k,hk,hk0,hpk⟩=>hpf ⟨k,getD_set_true hk,hk0,hpk⟩;have hW:=hS p op hop hcp hpl hold;have e1:execOp a'.eval op=execOp a.eval op:=by rw [ha'];exact execOp_put op (by grind) ({a with defers:=ds}:Act) oj.dst u (fun e he=>(hpd e he).1)
   have e2: ∀ d,op.dst=some d->a'.tmps.getD d Go.undef=a.tmps.getD d Go.undef:=(by grind [Em]);by_cases h2:DL op=2
   ·intro d hd;obtain⟨u',m1,m2⟩:=hW d hd;simp_all
   ·have h1:DL op=1:=by
     have:DL op<=2:=by unfold DL;grind
     omega
    grind
  have hsl: ∀ d',oj.dst ≠ some d'->a'.tmps.getD d' Go.undef=a.tmps.getD d' Go.undef:=(by grind [Em]);intro a'' hu;have hk':K a'' w'/\ ∀ d',oj.dst ≠ some d'->(∀ (p:Nat) (op:Oper),ops[p]? =some op->DL op ≠ 0->op.dst ≠ some d')->a''.tmps.getD d' Go.undef=a.tmps.getD d' Go.undef:=by
   induction hu with
   | refl=>grind
   | step _ h1 ih=>
     refine⟨hU _ _ _ ih.1 h1,fun d' hd' hp'=>?_⟩;obtain⟨p,o,d,u,q1,q2,q3,q4,q5,q6,rfl⟩:=h1;rw [Em (fun e he q=>?_)]
     ·exact ih.2 d' hd' hp'
     grind [I5]
  have aMf:=hSS.ups hst hlz hu;grind
 unfold wpOp;simp only [hj];split
 ·rename_i hwt;rw [if_pos hwt]at hw;exact .inl (Oper.wp_mono (by grind) (AaO hw))
 grind
end
theorem TU {P:Program} {F:Fr} {st:St} {a:Act} {w:World} {G:AJ} (h:R F st a w G) {d:Nat} {t:TypeId} {len:Nat} {ps:Array (Nat×Operand)} (hs:(Bf P st d t len ps.toList).1) {r:Value} {w':World}
 (hr:(Instr.buildSlice t len (ps.map fun(i,x)=>(i,a.eval x))).run P w= .ok r w'):CY w w':=by
 unfold Bf at *;split at hs
 ·rename_i E n by' abX;split at hs
  ·rename_i z hz;split at hs
   ·rename_i cs hf;obtain⟨h1,h2,h3,h4⟩:=hs;obtain⟨i,zv,hu,hi,hzv,hsz,hby,hzs⟩:=Dz abX;obtain⟨i',zv',hi',adi,hc⟩:=GZ hz;rw [hi]at hi';injection hi' with hi';subst hi';rw [hzv]at adi;injection adi with adi;subst adi;have hzr:=LA (Fw (w:=w) (G:=G) hc) (by omega) len;obtain⟨abN,q1,q2⟩:=Jn hf (OR (h.parts rfl h1)) hzr;have q1':Instr.fill (fun i=>some (i*n,n)) ((Array.range (len*n)).map (zv.cells[· % zv.cells.size]!)) (ps.map fun(i,x)=>(i,a.eval x)).toList =some abN:=by simp_all
    rw [ac6 hu hi hzv hsz h3 h4 q1']at hr;grind [Jj]
   grind
  grind
 grind
end Go.PL
namespace Go.PL
open Go Go.RowKit
section
variable {F:Fr} {st:St} {a:Act} {w:World} {G:AJ}
theorem gU {w:World} {G:AJ}: ∀ {cs:List C} {vs:List Value} {k:Nat} {c:C},Ai w G cs vs->cs[k]? =some c-> ∃ v,vs[k]? =some v/\Af w G c v
 | [],_,_,_,_,h=>by simp at h
 | _::_,[],_,_,h,_=>by simp only [Ai]at h
 | c::cs,v::vs,0,d,h,hk=>by simp only [Ai]at h;grind
 | c::cs,v::vs,k+1,d,h,hk=>by simp only [Ai]at h;obtain⟨u,h1,h2⟩:=gU h.2 (by simpa using hk);exact⟨u,by simpa using h1,h2⟩
theorem R.apN (h:R F st a w G) {id:Ah} {e:AB} (hl:st.Tz id=some e) {cs':List C} (hlen:cs'.length=e.cs.length) (hp:Au cs'=true) {b:Nat} (hb:G.y_ id=some b)
 (hc: ∀ k c,cs'[k]? =some c->(e.cs[k]? =some c/\ov c=true)\/ ∃ E n,c= .isl E n 0 []/\w.cell? ⟨b,k,none⟩=some (.slice none 0 0)):
 ∃ G',R F (st.j_ (D9 id) ((st.so.map (AB.j_ (D9 id))).map (aar id e.row cs'))) a w G'/\G'.own id=G.own id:=by
 obtain⟨hm,hid,hd,hmk,hpu,hpe,hi,E0,n0,ajp,hr0⟩:=h.abx hl;let G':AJ:=⟨fun i=>if D9 id i=true then none else G.y_ i,fun i=>if D9 id i=true then some (.slice none 0 0)else G.own i,fun b=>F.av b\/ ∃ i,(if D9 id i=true then none else G.y_ i)=some b⟩;have hag: ∀ i,D9 id i=false->G'.y_ i=G.y_ i/\G'.own i=G.own i:=(by grind);have hno:D9 id id=false:=by grind [Gi]
 have t:I_ F (D9 id) (fun _=>false) G G' w w:=G6 h G' rfl hag (by grind) (fun i j b hib hjb=>by
  simp only [G']at hib hjb;split at hib
  ·cases hib
  ·split at hjb
   ·cases hjb
   ·exact h.inj _ _ b hib hjb)
 obtain⟨E1,n1,amK,v1,acy,akS,g1,g2,g3,g4,g5,g6,g7,g8,g9⟩:=h.ael hl hb;obtain⟨us,r1,r2⟩:=g9.list;have aDs: ∀ cs:List C,Au cs=true->Jd (fun i=>BO i cs=true) G G':=fun cs hp i hi'=>absurd (show BO i cs=true from hi') (by rw [AU i cs hp];simp);have Tc:Am w G' cs' b 0:=by
  have:=Aap (f:=_root_.id) (cs:=cs') (b:=b) (o:=0) (w:=w) (G:=G') (fun k c hk=>by
   rcases hc k c hk with ⟨q1,q2⟩ | ⟨E,n,q1,q2⟩
   ·obtain⟨u,k1,k2⟩:=gU (Ai.mono t.keeps _ _ (aDs _ hpe) r1) q1;exact⟨u,by rw [zero_add];have:=r2 k u k1;grind,k2⟩
   ·refine⟨.slice none 0 0,by grind,?_⟩;rw [q1];simp only [_root_.id,Af];rfl)
  simp_all
 have afY:Ba w G' ⟨id,e.row,cs',true⟩:=by unfold Ba;rw [g1];exact⟨by grind,v1,by grind, .inr ⟨b,acy,akS,g4,by grind,g5,g6,g7,g8,Tc⟩⟩
 have hin:EP w G' ⟨id,e.row,cs',true⟩:=by
  intro j E2 n2 abU cs2 hj;rcases hc j _ hj with ⟨_,q2⟩ | ⟨E,n,q1,q2⟩
  ·cases q2
  ·injection q1 with q1 q3 q4 q5;subst q1 q3 q4 q5;have ho:G'.own (BL j id)=some (.slice none 0 0)/\G'.y_ (BL j id)=none:=by grind [Il]
   refine⟨rfl,?_,b,_,by grind,q2,ho.1⟩;unfold Ba;grind
 have aau:=t.aok h hl (fun _=>true) (fun d hd' _ ad4=>by
  have h1:D9 id d.id=false:=by
   cases q:D9 id d.id with
   | false=>rfl
   | true=>have:=Gi q;rw [(h.deep d hd').1]at this;cases this
  exact⟨h1,rfl,fun _ k=>⟨by grind [Il],rfl⟩⟩) (by rw [g1];rfl) afY hin hp
 rw [Ko]at aau;exact⟨G',t.agr h _ aau.1 aau.2.1 aau.2.2.1 aau.2.2.2,(hag id hno).2⟩
end
end Go.PL
namespace Go.PL
open Go Go.RowKit
theorem R.aq2 {F:Fr} {st:St} {a:Act} {w w':World} {G:AJ} (h:R F st a w G) {id:Ah} {e:AB} (he:st.look id=some e) {E n len acF:Nat}
 {v v':Value} {xs us:List Value} {cs:List C} (hq:Au cs=true) (hob:v.ownBlock=G.y_ id) (h2:Ai w G cs us)
 (hold:w.ownsRow 0 E n v len xs) (aaO:w'.ownsRow 0 E n v' acF us) (hg:w.grownBy w' v.ownBlock) (hfr:v'.ownBlock=v.ownBlock\/ ∀ b,v'.ownBlock=some b->w.heap.size<=b):
 ∃ G',R F (st.new ⟨id,some (E,n,acF),cs,true⟩) a w' G'/\G'.own id=some v'/\v'.oneCell'=true:=by
 obtain⟨hm,hid⟩:=Bi he;have ab5: ∀ b,b<w.heap.size->G.y_ id ≠ some b->w'.heap[b]? =w.heap[b]? :=fun b hb hne=>hg.block b hb (by grind);have hn: ∀ b,v'.ownBlock=some b->w.heap.size<=b\/(G.y_ id=some b/\B7 w w' b):=by
  intro b hb;rcases hfr with q | q
  ·refine .inr ⟨by grind,?_⟩;have hb2:v.ownBlock=some b:=by grind
   intro cur T fz hc;rcases aaO.2 with ⟨r,_⟩ | ⟨g,cap,adS,r,_,r2,_⟩
   ·rw [r]at hb;cases hb
   ·rw [r]at hb;simp only [Value.ownBlock,injEq]at hb;subst hb;rcases hold.2 with ⟨r3,_⟩ | ⟨g3,azN,azL,r3,_,r4,_⟩
    all_goals grind [Value.ownBlock]
  grind
 have hlt: ∀ b,v'.ownBlock=some b->b<w'.heap.size:=fun b hb=>(aaO.lt b hb).2;have adj:v'.oneCell'=true:=by rcases aaO.2 with ⟨q,_⟩ | ⟨g,cap,cur,q,_⟩<;>rw [q]<;>rfl
 refine⟨B0 F G id v'.ownBlock (some v'),?_,by simp [B0],adj⟩;have hk:=h.keeps id v'.ownBlock (some v') hg.size ab5 hn;have ay9:=Hw (row:=some (E,n,acF)) (pu:=true) h hk (fun _=>hq) h2;refine h.set ⟨id,some (E,n,acF),cs,true⟩ v'.ownBlock (some v') ⟨hg.os,hg.tape,hg.output⟩ hg.size ab5 ?_ (by grind) (fun _=>hq) ?_
 ·intro b hb auk;refine ab5 b (Nat.lt_of_lt_of_le hb h.L_) (fun q=>?_);rcases h.new id b q with q2 | q2
  all_goals grind
 ·have hl2:=h2.length;have hln:=aaO.1;refine Jk (AB.ad0 _ _) ⟨by grind [NF],v',by simp [B0,AB.X_],?_⟩;rcases aaO.2 with ⟨q,h0⟩ | ⟨g,cap,cur,q,_,q2,q3,q4,q5,q6⟩
  ·simp_all [B0,Value.ownBlock,AB.X_]
  ·refine .inr ⟨g,cap,cur,q,by simp [B0,q,Value.ownBlock,AB.X_],q2,q3,q4,q5,?_⟩;grind [Am.aaY,BA,take_append_drop]
theorem E4.clip {P:Program} {I:World->Prop} {o:Oper} {st:St} {K:St->Prop} {t:TypeId} {x:Operand} {k k':IntKind} {len:Nat} {cs:List C} (E n d:Nat)
 (ho:o.op= .slice t x none (some (.const (.int k 0))) (some (.const (.int k' 0)))) (hd:o.dst=some d)
 (hK:K ((st.new ⟨d::st.pre,some (E,n,0),[],true⟩).put (some d) (.c (.n_ (d::st.pre)))))
 (hs:Dj P t=some (E,n):=by kernel_rfl) (hx:st.ev x= .c (.sl len cs):=by kernel_rfl):E4 P I o st K:=by
 intro F a w G Q hI hR;obtain⟨hu,inf,hi,hsz⟩:=DF hs;have hxv:=hR.ev x;rw [hx]at hxv;simp only [Ad,Af]at hxv;obtain⟨_,p,cap,he,_⟩:=hxv;have hb:(Instr.sliceBounds true len cap none (some (.int k 0)) (some (.int k' 0))).run P w= .ok (0,0,0) w:=by simp_all [aac,Instr.sliceBounds]
 have J_:(execOp a.eval o).run P w= .ok (.value (.slice p 0 0)) w:=by have hc: ∀ u,a.eval (.const u)=u:=fun _=>rfl;simp [execOp,ho,he,hc,Instr.sliceAt,Instr.slice,Sem.run_bind,run_underlying hu,hb,sizeOf,typeInfo,program,Sem.run,hi,hsz]
 refine AO J_ ⟨_,B0 F G (d::st.pre) none (some (.slice p 0 0)),hK,?_⟩;rw [hd];exact R.put (d:=some d) (hR.apu (d::st.pre) E n p) (by simp only [Ad,Af,B0,if_true];exact⟨trivial,rfl⟩)
def Vq (P:Program) (f:FuncId) (E:TypeId):Prop:=
 ∀ (w:World) (v:Value) (n i vb m vc:Nat) (xs us:List Value) (cur:Array Value) (T:TypeId) (row:Option Nat),
   (w.ownsRow 0 E 1 v n xs/\row=v.ownBlock\/ ∃ p,v= .slice (some p) 0 0/\n=0/\xs=[]/\row=none)->i<=n->0<m->(∀ u∈xs,u.oneCell'=true)->(∀ u∈us,u.oneCell'=true)->us.length=m->(n+m)*8<=140737488355328->m<=vc->cur.size=vc->
   row ≠ some vb->w.heap[vb]? =some (.cells cur T (0,0))->cur.toList.take m=us->
   Calls P f #[v, .int .i64 i, .slice (some ⟨vb,0,none⟩) m vc] w fun e w'=> ∃ v',e= .returned v'/\w'.ownsRow 0 E 1 v' (n+m) (xs.take i++us++xs.drop i)/\
    w.grownBy w' row/\(v'.ownBlock=row\/ ∀ b,v'.ownBlock=some b->w.heap.size<=b)
theorem E4.ins {P:Program} {I:World->Prop} {o:Oper} {st:St} {K:St->Prop} {f:FuncId} {x y z:Operand} {r rv:Ah} {E len m:Nat} {cs ds:List C} {i:Int} (hk:Cb o.op= .call f [x,y,z]) (abR:ent P f=true) (aDE:Vq P f E)
 (hx: ∀ Fr a w G,R Fr st a w G->Ad w G (.c (.n_ r)) (a.eval x)) (hy: ∀ Fr a w G,R Fr st a w G->Ad w G (.c (.int .i64 i)) (a.eval y)) (hz: ∀ Fr a w G,R Fr st a w G->Ad w G (.c (.n_ rv)) (a.eval z))
 (hl:st.look r=some ⟨r,some (E,1,len),cs,true⟩) (hl2:st.look rv=some ⟨rv,some (E,1,m),ds,true⟩) (hne:r ≠ rv) (hi:0<=i/\i<=(len:Nat)) (hm:0<m) (ap3:(len+m)*8<=140737488355328)
 {s1:St} (hls:CH (st.new ⟨r,some (E,1,len+m),cs.take i.toNat++ds++cs.drop i.toNat,true⟩) s1) (hK:K (s1.put o.dst (.c (.n_ r)))):E4 P I o st K:=by
 intro F a w G Q hI hR;have hr:=Rf (a:=a) hk abR w;unfold Oper.wp Oper.upon;rw [hr];obtain⟨hm1, -⟩:=Bi hl;obtain⟨hm2, -⟩:=Bi hl2;have hxv:=hx F a w G hR;have hyv:=hy F a w G hR;have hzv:=hz F a w G hR;simp only [Ad,Af]at hxv hyv hzv;obtain⟨v,xs,k1,k2,k3,k4⟩:=Dy (e:=⟨r,some (E,1,len),cs,true⟩) rfl (hR.store _ hm1);obtain⟨u,us,q1,q2,q3,q4⟩:=Dy (e:=⟨rv,some (E,1,m),ds,true⟩) rfl (hR.store _ hm2);have hxe:a.eval x=v:=by grind
 have hze:a.eval z=u:=by grind
 have hye:a.eval y= .int .i64 i:=hyv;have awa:([x,y,z].map a.eval).toArray = #[v, .int .i64 i,u]:=by grind
 rw [awa];obtain⟨j,hj⟩: ∃ j:Nat,i=(j:Int):=(by grind);subst hj;simp only [Int.toNat_natCast]at hls;rcases q4 with ⟨q4,q5⟩ | ⟨p,_,q0,_⟩
 rotate_left
 ·omega
 rcases q4.2 with ⟨_,q0⟩ | ⟨vb,vc,cur,rfl,_,c1,c2,c3,c4,c5⟩
 ·omega
 simp only [Nat.mul_one]at c4 c5;have hrv:G.y_ rv=some vb:=q5.symm;have hlx:xs.length=len:=by
  have h5:cs.length=len*1:=by have:=hR.store _ hm1;grind [Ba]
  have h6:cs.length=xs.length:=k3.length;omega
 have hlu:us.length=m:=by grind
 have hold:(w.ownsRow 0 E 1 v len xs/\G.y_ r=v.ownBlock\/ ∃ p,v= .slice (some p) 0 0/\len=0/\xs=[]/\G.y_ r=none):=by grind
 refine(aDE w v len j vb m vc xs us cur E (G.y_ r) hold (by omega) hm (Ai.one k3) (Ai.one q3) hlu ap3 c2 c4 (fun q=>hne (hR.inj _ _ _ q hrv)) c1 c5).mono fun e w' ⟨v',he,h1,h2,h3⟩=>?_;subst he;have afY:Ai w G (cs.take j++ds++cs.drop j) (xs.take j++us++xs.drop j):=((k3.take j).append q3).append (k3.drop j);have hp:Au (cs.take j++ds++cs.drop j)=true:=by have p1:Au cs=true:=hR.P_ _ hm1 rfl;have p2:Au ds=true:=hR.P_ _ hm2 rfl;grind [B6]
 have fin: ∃ G',R F (st.new ⟨r,some (E,1,len+m),cs.take j++ds++cs.drop j,true⟩) a w' G'/\G'.own r=some v'/\v'.oneCell'=true:=by
  rcases hold with ⟨g1,g2⟩ | ⟨p,g1,g2,g3,g4⟩
  ·exact R.aq2 hR hl hp g2.symm afY g1 h1 (by grind) (by grind)
  ·rw [g4]at h2 h3;exact R.aq2 hR hl (v:= .slice none 0 0) (len:=0) (xs:=[]) hp (by rw [g4];rfl) afY ⟨by simp, .inl ⟨rfl,rfl⟩⟩ h1 h2 h3
 obtain⟨G',g1,g2,g3⟩:=fin;exact⟨_,G',hK,(g1.less hls).put (by simp_all [Ad,Af])⟩
end Go.PL
