/- The pure logic: Tj, Tk, Tl, Tm, Tn, To, Tt, Tu, Tu2, Tu3, Tu4, Tu5, Tu6, Tu7, Tu8, Tu9. -/
import Derived.Test.YteginlijmbcopaaGreatDoorPlRtoPlQa
import Derived.Test.YteginlijmbcopaaGreatDoorTatoPlYg
open List (mem_map mem_cons map_cons flatMap_cons nil_append mem_singleton cons_append append_assoc all_cons map_map mem_filter set_cons_succ append_nil nodup_cons getElem?_append_right getElem?_cons_zero map_congr_left length_append flatMap_append map_append mem_append length_set all_nil map_nil)
open Option.some (injEq)
open Bool (and_eq_true not_eq_true')
open Nat (eq_of_beq_eq_true beq_eq add_mul le_succ le_refl mul_le_mul_right one_mul zero_add add_zero)
open Option (getD_none getD_some)
set_option linter.all false
namespace Go.PL
open Go Go.RowKit
variable {T:Bl}
inductive VT where
 | k (kd:Kd)
 | s (E:Nat)
 | f (g:FuncId)
def En (T:Bl):VT->Type
 | .k kd=>OW T.den kd
 | .s E=>T.den E
 | .f _=>Unit
def Ac0 (T:Bl):(k:Kd)->OW T.den k
 | .int _=>(default:Int)
 | .bool =>(default:Bool)
 | .str =>(default:List UInt8)
 | .u_ E=>(default:List (T.den E))
def Ac1 (T:Bl):(t:VT)->En T t
 | .k kd=>Ac0 T kd
 | .s E=>(T.inh E).default
 | .f _=>()
def PG:(t:VT)->En T t->DV T
 | .k kd,x=> .c (.k kd x)
 | .s E,x=> .agg (gP E x)
 | .f g,_=> .c (.c (.fn g))
def Eo:(t:VT)->En T t->V
 | .k kd,x=> .c (Bk T.enc kd x)
 | .s E,x=> .agg (T.enc E x)
 | .f g,_=> .c (.fn g)
theorem OY (t:VT) (x:En T t):(PG t x).toV =Eo t x:=by
 cases t with
 | k kd=>simp only [PG,DV.toV,DC.toC,Eo]
 | s E=>exact congrArg V.agg (Gj E x)
 | f g=>simp only [PG,DV.toV,DC.toC,Eo]
theorem Rz {H:Az T} {nx:Nat} (t:VT) (x:En T t):(PG t x).ok H nx:=by cases t<;>grind [PG,DV.ok,DC.ok,Mp]
def asC:DV T->Option (DC T)
 | .c x=>some x
 | _=>none
def asA:DV T->Option (List (DC T))
 | .agg cs=>some cs
 | _=>none
def gV (kd:Kd) (v:DV T):Option (OW T.den kd):=match asC v with
 | some x=>HN false kd x
 | none=>none
def amn (E:Nat) (v:DV T):Option (T.den E):=match asA v with
 | some cs=>wj false E cs
 | none=>none
def pC (g:FuncId):DV T->Option Unit
 | .c (.c (.fn g'))=>match Nat.beq g' g with
   | true=>some ()
   | false=>none
 | _=>none
def xu:(t:VT)->DV T->Option (En T t)
 | .k kd,v=>gV kd v
 | .s E,v=>amn E v
 | .f g,v=>pC g v
theorem Yu {v:DV T} {x:DC T} (h:asC v=some x):v= .c x:=by unfold asC at h;grind
theorem Yv {v:DV T} {x:List (DC T)} (h:asA v=some x):v= .agg x:=by unfold asA at h;grind
theorem sq {kd:Kd} {v:DV T} {x:OW T.den kd} (h:gV kd v=some x):v.toV= .c (Bk T.enc kd x):=by
 unfold gV at h;split at h
 ·rename_i y hy;rw [Yu hy];simp only [DV.toV,(Cv h).2 rfl]
 ·cases h
theorem AaP {E:Nat} {v:DV T} {x:T.den E} (h:amn E v=some x):v.toV= .agg (T.enc E x):=by
 unfold amn at h;split at h
 ·rename_i y hy;rw [Yv hy];simp only [DV.toV,(HO h).2 rfl]
 ·cases h
theorem AaQ {g:FuncId} {v:DV T} {x:Unit} (h:pC g v=some x):v.toV= .c (.fn g):=by unfold pC at h;grind [eq_of_beq_eq_true,DV.toV,DC.toC]
theorem Yw {t:VT} {v:DV T} {x:En T t} (h:xu t v=some x):v.toV=Eo t x:=by
 cases t with
 | k kd=>exact sq h
 | s E=>exact AaP h
 | f g=>exact AaQ h
def XS (T:Bl):List VT->Type
 | []=>Unit
 | t::ts=>En T t×XS T ts
def FX:(ts:List VT)->XS T ts->List V
 | [],_=>[]
 | t::ts,x=>Eo t x.1::FX ts x.2
def TV:(ts:List VT)->List (DV T)->Option (XS T ts)
 | [],[]=>some ()
 | t::ts,v::vs=>match xu t v,TV ts vs with
   | some x,some y=>some (x,y)
   | _,_=>none
 | _,_=>none
theorem Vr: ∀ {ts:List VT} {vs:List (DV T)} {x:XS T ts},TV ts vs=some x->Be vs=FX ts x
 | [],[],x,_=>by simp only [Be,FX]
 | [],_::_,_,h=>by simp [TV]at h
 | _::_,[],_,h=>by simp [TV]at h
 | t::ts,v::vs,x,h=>by
   unfold TV at h;split at h
   ·rename_i a b h1 h2;injection h with h;subst h;simp only [Be,FX,Yw h1,Vr h2]
   ·cases h
def RT (T:Bl):List VT->Type
 | []=>Unit
 | [t]=>En T t
 | t::u::ts=>En T t×RT T (u::ts)
def Ac2 (T:Bl):(ts:List VT)->RT T ts
 | []=>()
 | [t]=>Ac1 T t
 | t::u::ts=>(Ac1 T t,Ac2 T (u::ts))
instance (ts:List VT):Inhabited (RT T ts):=⟨Ac2 T ts⟩
def Cw:(ts:List VT)->RT T ts->List (DV T)
 | [],_=>[]
 | [t],x=>[PG t x]
 | t::u::ts,x=>PG t x.1::Cw (u::ts) x.2
def TW:(ts:List VT)->RT T ts->DV T
 | [],_=> .tup []
 | [t],x=>PG t x
 | t::u::ts,x=> .tup (Cw (t::u::ts) x)
def Cl:(ts:List VT)->RT T ts->List V
 | [],_=>[]
 | [t],x=>[Eo t x]
 | t::u::ts,x=>Eo t x.1::Cl (u::ts) x.2
def IB:(ts:List VT)->RT T ts->V
 | [],_=> .tup []
 | [t],x=>Eo t x
 | t::u::ts,x=> .tup (Cl (t::u::ts) x)
theorem Yx: ∀ (ts:List VT) (x:RT T ts),Be (Cw ts x)=Cl ts x
 | [],_=>by simp only [Cw,Be,Cl]
 | [t],x=>congrArg (fun z=>[z]) (OY t x)
 | t::u::ts,x=>by simp only [Cw,Be,Cl,OY,Yx (u::ts)]
theorem NY: ∀ (ts:List VT) (x:RT T ts),(TW ts x).toV =IB ts x
 | [],_=>by simp only [TW,DV.toV,IB,Be]
 | [t],x=>OY t x
 | t::u::ts,x=>by simp only [TW,DV.toV,IB,Yx]
theorem TX {H:Az T} {nx:Nat}: ∀ (ts:List VT) (x:RT T ts),CL H nx (Cw ts x)
 | [],_=>by simp only [Cw,CL]
 | [t],x=>by simp only [Cw,CL,and_true];exact Rz t x
 | t::u::ts,x=>by simp only [Cw,CL,Rz,TX (u::ts),and_self]
theorem RA {H:Az T} {nx:Nat}: ∀ (ts:List VT) (x:RT T ts),(TW ts x).ok H nx
 | [],_=>by simp only [TW,DV.ok,CL]
 | [t],x=>Rz t x
 | t::u::ts,x=>by grind [TW,DV.ok,TX]
def gW:Kd->Bool
 | .u_ _=>false
 | _=>true
def TY (T:Bl):VT->Bool
 | .k kd=>gW kd
 | .s E=>(T.ks E).all gW
 | .f _=>true
theorem Yy {den:Nat->Type} {enc: ∀ E,den E->List C}: ∀ (ks:List Kd) (y:DK den ks),(BD enc ks y).all C.flat=ks.all gW
 | [],_=>rfl
 | k::ks,y=>by simp only [BD,all_cons,Yy ks];cases k<;>rfl
theorem Qw (t:VT) (x:En T t):(Eo t x).flat =TY T t:=by
 cases t with
 | k kd=>cases kd<;>rfl
 | s E=>
   show (T.enc E (show T.den E from x)).all C.flat=(T.ks E).all gW;rw [<-T.abw,Yy]
 | f g=>rfl
theorem Vs: ∀ (ts:List VT) (x:RT T ts),KR (Cl ts x)=ts.all (TY T)
 | [],_=>by simp [Cl,KR]
 | [t],x=>by simp only [Cl,KR,all_cons,all_nil,Bool.and_true];exact Qw t x
 | t::u::ts,x=>by simp only [Cl,KR,Qw,Vs (u::ts),all_cons]
theorem LH: ∀ (ts:List VT) (x:RT T ts),(IB ts x).flat =ts.all (TY T)
 | [],_=>by simp [IB,V.flat,KR]
 | [t],x=>by simp only [IB,all_cons,all_nil,Bool.and_true];exact Qw t x
 | t::u::ts,x=>by simp only [IB,V.flat,Vs]
def JG (m:Nat):(k:Kd)->OW T.den k->List OE
 | .u_ E,l=>match m with
   | 1=>[⟨false,E,T.sz E,List.length l,List.flatMap (T.enc E) l⟩]
   | 2=>[⟨true,E,T.sz E,List.length l,AH T E (List.length l:Nat) 0 l⟩]
   | _=>[]
 | _,_=>[]
def Pv (m:Nat):Kd->Nat
 | .u_ _=>match m with
   | 1=>1
   | 2=>1
   | _=>0
 | _=>0
def PH (m j:Nat) (k:Kd) (x:OW T.den k):PC:=match Pv m k with
 | 0=> .c (Bk T.enc k x)
 | _=> .o j
def Yz (m:Nat) (id:Ah) (k:Kd):List Ah:=match Pv m k with
 | 0=>[]
 | _=>match m with
   | 2=>[1000003::id]
   | _=>[id]
def Cm:List Nat->(ks:List Kd)->DK T.den ks->List OE
 | m::ms,k::ks,x=>JG m k x.1++Cm ms ks x.2
 | _,_,_=>[]
def Fk:List Nat->Nat->(ks:List Kd)->DK T.den ks->List PC
 | m::ms,j,k::ks,x=>PH m j k x.1::Fk ms (j+Pv m k) ks x.2
 | [],j,k::ks,x=> .c (Bk T.enc k x.1)::Fk [] j ks x.2
 | _,_,[],_=>[]
def LI:List Nat->Nat->Ah->List Kd->List Ah
 | m::ms,i,Td,k::ks=>Yz m (i::Td) k++LI ms (i+1) Td ks
 | _,_,_,_=>[]
def Fl:List Nat->List Kd->Nat
 | m::ms,k::ks=>Pv m k+Fl ms ks
 | _,_=>0
def Fa (T:Bl):VT->List Kd
 | .k kd=>[kd]
 | .s E=>T.ks E
 | .f _=>[]
def NZ:(t:VT)->En T t->DK T.den (Fa T t)
 | .k _,x=>(x,())
 | .s E,x=>T.un E x
 | .f _,_=>()
def Iw (m:List Nat) (j:Nat):(t:VT)->En T t->PP
 | .k kd,x=> .c (PH (m.headD 0) j kd x)
 | .s E,x=> .a (Fk m j (T.ks E) (T.un E x))
 | .f g,_=> .c (.c (.fn g))
def Dq:List (List Nat)->(ts:List VT)->RT T ts->List OE
 | m::_,[t],x=>Cm m (Fa T t) (NZ t x)
 | m::ms,t::u::ts,x=>Cm m (Fa T t) (NZ t x.1)++Dq ms (u::ts) x.2
 | _,_,_=>[]
def BX:List (List Nat)->Nat->(ts:List VT)->RT T ts->List PP
 | m::_,j,[t],x=>[Iw m j t x]
 | [],j,[t],x=>[Iw [] j t x]
 | m::ms,j,t::u::ts,x=>Iw m j t x.1::BX ms (j+Fl m (Fa T t)) (u::ts) x.2
 | [],j,t::u::ts,x=>Iw [] j t x.1::BX [] j (u::ts) x.2
 | _,_,[],_=>[]
def YA (T:Bl):List (List Nat)->Nat->Ah->List VT->List Ah
 | m::ms,p,Td,t::ts=>LI m 0 (p::Td) (Fa T t)++YA T ms (p+1) Td ts
 | _,_,_,_=>[]
structure CE (T:Bl) (P:Program) (I:World->Prop) where
 f:FuncId
 ps:List VT
 rs:List VT
 run:XS T ps->Option (RT T rs)
 ok: ∀ x r,run x=some r->CZ P I f (FX ps x) (· =IB rs r)
 ow:List (List Nat):=[]
 okx:ow ≠ []-> ∀ x r,run x=some r->Mr P I f (FX ps x) (Dq ow rs r) (BX ow 0 rs r):=by exact fun h=>absurd rfl h
 ins:Option TypeId:=none
 aua: ∀ E,ins=some E->Vq P f E:=by exact fun _ h=>nomatch h
 tab:Option (Nat×List (List UInt8)):=none
 axJ: ∀ g t,tab=some (g,t)->gN I g t:=by exact fun _ _ h=>nomatch h
def Qx {P:Program} {I:World->Prop} (f:FuncId) (ws:List (DV T)):List (CE T P I)->Option ((e:CE T P I)×XS T e.ps)
 | []=>none
 | e::r=>match Nat.beq e.f f with
   | true=>match TV e.ps ws with
     | some x=>some ⟨e,x⟩
     | none=>Qx f ws r
   | false=>Qx f ws r
theorem FY {P:Program} {I:World->Prop} {f:FuncId} {ws:List (DV T)}: ∀ {l:List (CE T P I)} {e:CE T P I} {x:XS T e.ps},Qx f ws l=some ⟨e,x⟩->e.f=f/\Be ws=FX e.ps x
 | [],_,_,h=>by cases h
 | a::r,e,x,h=>by
   unfold Qx at h;split at h
   ·rename_i hb;split at h
    ·rename_i y hy;injection h with h;injection h with h1 h2;subst h1;have h2:=eq_of_heq h2;grind [eq_of_beq_eq_true,Vr]
    ·exact FY h
   ·exact FY h
def gX (st:Ag T) (c:DC T):Option (DC T):=match Kp c with
 | some id=>match DA st id with
   | some ⟨E,l⟩=>some (.k (.u_ E) l)
   | none=>none
 | none=>some (Yn c)
def YB (st:Ag T):List (DC T)->Option (List (DC T))
 | []=>some []
 | c::cs=>match gX st c,YB st cs with
   | some d,some ds=>some (d::ds)
   | _,_=>none
def gY (st:Ag T):DV T->Option (DV T)
 | .c x=>match gX st x with
   | some y=>some (.c y)
   | none=>none
 | .agg cs=>match YB st cs with
   | some ds=>some (.agg ds)
   | none=>none
 | _=>none
def Ms (st:Ag T):List (DV T)->Option (List (DV T))
 | []=>some []
 | v::vs=>match gY st v,Ms st vs with
   | some d,some ds=>some (d::ds)
   | _,_=>none
def sr (c:DC T):List Ah:=match Kp c with
 | some id=>[id]
 | none=>[]
def eJ:List (DC T)->List Ah
 | []=>[]
 | c::cs=>sr c++eJ cs
def su:DV T->List Ah
 | .c x=>sr x
 | .agg cs=>eJ cs
 | _=>[]
def RB:List (DV T)->List Ah
 | []=>[]
 | v::vs=>su v++RB vs
theorem Mt {c:DC T} (h:Kp c=none): ∀ id,c.toC ≠ .n_ id:=fun i he=>by
 cases c with
 | c x=>grind [DC.toC,Kp]
 | k kd x=>cases kd<;>simp [DC.toC,Bk]at he
 | ip=>simp [DC.toC]at he
 | rp=>simp [DC.toC]at he
 | ap=>simp [DC.toC]at he
 | bs=>simp [DC.toC]at he
 | clo b f cs=>cases b<;>simp [DC.toC]at he
theorem Vt {st:Ag T} {c d:DC T} (h:gX st c=some d):Km st.toSt c.toC=d.toC:=by
 unfold gX at h;split at h
 ·rename_i id ho;have:=El ho;subst this;split at h
  ·rename_i E l hr;injection h with h;subst h;simp only [DC.toC,Km,(BK hr).1,Bk,if_true]
  ·cases h
 ·rename_i ho;injection h with h;subst h;rw [Yo];have:=Mt ho;cases hc:c.toC<;>simp only [Km,GO];grind
theorem Vu {st:Ag T}: ∀ {cs ds:List (DC T)},YB st cs=some ds->(Ax cs).map (Km st.toSt)=Ax ds
 | [],ds,h=>by grind [YB,Ax]
 | c::cs,ds,h=>by
   unfold YB at h;split at h
   ·rename_i d ds' h1 h2;injection h with h;subst h;simp only [Ax,map_cons,Vt h1,Vu h2]
   ·cases h
theorem Vv {st:Ag T} {v w:DV T} (h:gY st v=some w):BC st.toSt v.toV=w.toV:=by unfold gY at h;grind [DV.toV,BC,Vt,Vu]
theorem Gk {st:Ag T}: ∀ {vs ws:List (DV T)},Ms st vs=some ws->(Be vs).map (BC st.toSt)=Be ws
 | [],ws,h=>by grind [Ms,Be]
 | v::vs,ws,h=>by
   unfold Ms at h;split at h
   ·rename_i d ds' h1 h2;injection h with h;subst h;simp only [Be,map_cons,Vv h1,Gk h2]
   ·cases h
theorem YC (c:DC T):Re c.toC=sr c:=by
 unfold sr;split
 ·rename_i id ho;rw [El ho];simp only [DC.toC,Re]
 simp_all [Mt,Re]
theorem YD: ∀ cs:List (DC T),(Ax cs).flatMap Re=eJ cs
 | []=>by simp [Ax,eJ]
 | c::cs=>by simp only [Ax,flatMap_cons,YC,YD cs,eJ]
theorem pE (v:DV T):wt v.toV=su v:=by cases v<;>grind [DV.toV,wt,su,YC,YD]
theorem FE: ∀ vs:List (DV T),C0 (Be vs)=RB vs
 | []=>by simp [Be,C0,RB]
 | v::vs=>by have:=FE vs;simp only [C0]at this ⊢;simp only [Be,flatMap_cons,pE,this,RB]
theorem Dd (t:VT) (x:En T t):(Eo t x).pure =true:=by
 cases t with
 | k kd=>grind [Eo,V.pure,XZ]
 | s E=>grind [Eo,V.pure,X1]
 | f g=>rfl
theorem JH: ∀ (ts:List VT) (x:XS T ts),B9 (FX ts x)=true
 | [],_=>by simp only [FX,B9]
 | t::ts,x=>by simp only [FX,B9,Dd,JH ts,Bool.and_self]
theorem Ag.arg_val {st:Ag T} {key:List GL} {x:Operand} {v:DV T} (h:st.arg key x=some v) (g:Bool):(st.toSt.arg g x).2=v.toV:=by
 have e:=st.acp x;unfold Ag.arg at h;unfold St.arg;split at h
 ·grind [DV.toV]
 ·rename_i hne;injection h with h;subst h;rw [e];cases hv:st.ev x<;>grind [DV.toV]
theorem TZ {st:Ag T} {key:List GL} (g:Bool): ∀ {xs:List Operand} {vs:List (DV T)},Iu st key xs=some vs->(st.toSt.args g xs).2=Be vs
 | [],vs,h=>by grind [Iu,St.args,Be]
 | x::xs,vs,h=>by
   unfold Iu at h;split at h
   ·rename_i v vs' h1 h2;injection h with h;subst h;simp only [St.args,Be,Ag.arg_val h1 g,TZ g h2]
   ·cases h
def eK {P:Program} {I:World->Prop} (Γ:List (CE T P I)) (key:List GL) (st:Ag T) (f:FuncId) (xs:List Operand) (d:Option Nat):M (Ag T):=
 match Iu st key xs with
 | some vs=>match Ms st vs with
   | some ws=>match Qx f ws Γ with
     | some ⟨e,x⟩=> .opt (gk key (e.run x)) fun r=>match key with
       | []=>match e.rs.all (TY T)with
         | true=> .ret (st.put d (TW e.rs r))
         | false=>match RB vs with
           | []=> .ret (st.put d (TW e.rs r))
           | [id]=>match st.frz id with
             | some s=> .ret (s.put d (TW e.rs r))
             | none=> .no
           | _=> .no
       | l::ls=>match e.rs.all (TY T),RB vs with
         | true,_=> .ret (st.put d (.g (l::ls) (TW e.rs r)))
         | false,[]=> .ret (st.put d (.g (l::ls) (TW e.rs r)))
         | _,_=> .no
     | none=> .no
   | none=> .no
 | none=> .no
def xv (H:Az T) (P:Program) (I:World->Prop) (ops:Array Oper) (st:Ag T) (o:Oper) (d_:Ag T):Prop:=
 (∃ H',Nx H st H' d_)/\d_.pre=st.pre/\ ∀ K:St->Prop,K d_.toSt->dG P I ops o st.toSt K
section
variable {H:Az T} {P:Program} {I:World->Prop} {Γ:List (CE T P I)} {st:Ag T}
theorem uF (hw:AK H st) {f:FuncId} {xs:List Operand} {o:Oper} (hk:Cb o.op= .call f xs):
 Yl (eK Γ [] st f xs o.dst) (fun d_=>(∃ H',Nx H st H' d_)/\d_.pre=st.pre/\ ∀ K:St->Prop,K d_.toSt->tX P I o st.toSt K):=by
 unfold eK;split
 ·rename_i vs hvs;split
  ·rename_i ws hws;split
   ·rename_i e x hx;obtain⟨he,hx⟩:=FY hx;refine Yl.opt fun r hr=>?_;obtain⟨a1,a2,a3⟩:=Dc (key:=[]) hw (fun _ hl=>by cases hl) rfl hvs;change (st.toSt.args true xs).1 at a2;change (st.toSt.args true xs).2=Be vs at a3;have hp:=e.ok x r (Rq hr rfl);rw [he]at hp;have hs:(Be vs).map (BC st.toSt)=FX e.ps x:=by rw [Gk hws,hx]
    have base: ∀ d_:Ag T,((IB e.rs r).flat =true\/(C0 (Be vs)).length <=1/\ ∀ id∈C0 (Be vs),st.toSt.acU id=true)->d_.toSt=st.toSt.after (C0 (Be vs)) o.dst (IB e.rs r)-> ∀ K:St->Prop,K d_.toSt->tX P I o st.toSt K:=by intro d_ h1 h2 K hK;refine .inr ?_;grind [JH]
    simp only;split
    ·rename_i hf;refine Yl.ret ⟨Ag.aaL hw _ (RA _ _),AW _ _ _,base _ (.inl (by rw [LH];exact hf)) ?_⟩;simp_all [Ag.r_,NY,St.after,LH]
    ·rename_i hf;have hnf: ¬(IB e.rs r).flat =true:=by rw [LH,hf];simp
     split
     ·rename_i ht;refine Yl.ret ⟨Ag.aaL hw _ (RA _ _),AW _ _ _,base _ (.inr (by rw [FE,ht];simp)) ?_⟩;simp_all [Ag.r_,NY,FE,St.after]
     ·rename_i id ht;split
      ·rename_i s hs';obtain⟨⟨H1,hN⟩,h2,h3,h4⟩:=Ag.ag2 hw hs';refine Yl.ret ⟨Ag.Th hN _ (RA _ _),by rw [AW];exact h4,base _ (by grind [FE]) ?_⟩;simp_all [Ag.r_,NY,FE,St.after]
      ·exact Yl.no
     ·exact Yl.no
   ·exact Yl.no
  ·exact Yl.no
 ·exact Yl.no
theorem LJ {H:Az T} {st:Ag T} {key:List GL} (hw:AK H st) (hk:Fh H st.nx key) (d:Option Nat) {v:DV T} (hv:Bb key=true->v.ok H st.nx): ∃ H',Nx H st H' (st.put d (.g key v)):=
 Ag.aaL hw d (by simp only [DV.ok];exact⟨hk,hv⟩)
theorem uG (hw:AK H st) {f:FuncId} {xs:List Operand} {o:Oper} {key:List GL} (hk:Cb o.op= .call f xs) (arM:Fh H st.nx key) (hne:key ≠ []):
 Yl (eK Γ key st f xs o.dst) (fun d_=>(∃ H',Nx H st H' d_)/\d_.pre=st.pre/\ ∀ K:St->Prop,K d_.toSt->wpG P I o st.toSt (Bb key) K):=by
 unfold eK;split
 ·rename_i vs hvs;split
  ·rename_i ws hws;split
   ·rename_i e x hx;obtain⟨he,hx⟩:=FY hx;refine Yl.opt fun r hr=>?_;have hs:(Be vs).map (BC st.toSt)=FX e.ps x:=by rw [Gk hws,hx]
    have base:((IB e.rs r).flat =true\/RB vs=[])-> ∀ K:St->Prop,K (st.put o.dst (.g key (TW e.rs r))).toSt ->wpG P I o st.toSt (Bb key) K:=by
     intro h1 K hK;refine .inr ?_;rw [hk];simp only;rw [TZ _ hvs,hs,FE];rw [Ag.r_]at hK;refine⟨fun hc=>?_,IB e.rs r,h1,fun hc=>?_,by grind [DV.toV,NY]⟩
     ·obtain⟨a1,a2,a3⟩:=Dc hw arM hc hvs;grind [JH]
     ·have hp:=e.ok x r (Rq hr hc);grind
    split
    ·grind
    ·rename_i l ls;split
     all_goals simp_all [Yl.ret,LJ,RA,AW,LH,Yl.no]
   ·exact Yl.no
  ·exact Yl.no
 ·exact Yl.no
end
end Go.PL
namespace Go.PL
open Go Go.RowKit
variable {T:Bl}
def Ad3 (n:Nat) (want b:Bool):GL:=⟨n,want,b==want⟩
def YE (st:Ag T) (ops:Array Oper) (j:Nat) (want:Bool):Option (List GL):=
 match ops[j]? with
 | some p=>match p.dst with
   | some t=>match X6 st (.tmp t),st.get t with
     | n+1, .c (.k .bool b)=>some [Ad3 n want b]
     | n+1, .g k (.c (.k .bool b))=>some (Ad3 n want b::k)
     | _,_=>none
   | none=>none
 | none=>none
theorem N0 {H:Az T} {st:Ag T} {ops:Array Oper} {j:Nat} {want:Bool} {key:List GL} (hw:AK H st) (h:YE st ops j want=some key):Iz st.toSt ops j want=some (Bb key)/\Fh H st.nx key/\key ≠ []:=by
 unfold YE at h;unfold Iz;split at h
 ·rename_i p hp;split at h
  ·rename_i t ht;simp only [hp,ht];have hg:=st.abF t;have hok:=Ag.ahV hw t;have tg: ∀ n,X6 st (.tmp t)=n+1->n<st.nx/\H.v n=st.get t:=by
    intro n hn;unfold X6 at hn;simp only at hn;split at hn
    ·rename_i hb;have:=XU hw.tm hn;grind [Ag.get]
    ·cases hn
   split at h
   ·rename_i n b hn hv;injection h with h;subst h;obtain⟨q1,q2⟩:=tg n hn;rw [hv]at hg;refine⟨by rw [hg];rfl,fun l hl=>?_,by simp⟩;simp only [mem_singleton]at hl;subst hl;exact⟨q1,by show (_==_)=(gO (H.v n)==_);rw [q2,hv];rfl⟩
   ·rename_i n k b hn hv;injection h with h;subst h;obtain⟨q1,q2⟩:=tg n hn;rw [hv]at hg hok;simp only [DV.ok]at hok;refine⟨?_,fun l hl=>?_,by simp⟩
    ·rw [hg];simp only [DV.toV,DC.toC,Bk];cases k<;>grind [Bb,Ad3]
    ·rcases mem_cons.1 hl with rfl | hl
     ·exact⟨q1,by show (_==_)=(gO (H.v n)==_);rw [q2,hv];rfl⟩
     grind
   ·cases h
  ·cases h
 ·cases h
def AgD:DV T->Option Ah
 | .c x=>Kp x
 | _=>none
def dop {P:Program} {I:World->Prop} (Γ:List (CE T P I)) (ops:Array Oper) (o:Oper) (st:Ag T):M (Ag T):=
 match o.guard with
 | none=>match Cb o.op with
   | .rd => .Z_ (LE P [] st o.op) fun v=> .ret (st.put o.dst v)
   | .ef =>uy P st o
   | .call f xs=>eK Γ [] st f xs o.dst
   | .cut x=>match st.arg [] x with
     | some u=>match AgD u with
       | some id=>match st.frz id with
         | some s=> .Z_ (LE P [] s o.op) fun v=> .ret (s.put o.dst v)
         | none=> .no
       | none=> .Z_ (LE P [] st o.op) fun v=> .ret (st.put o.dst v)
     | none=> .no
   | .no => .no
 | some (j,want)=>match YE st ops j want with
   | some key=>match Cb o.op with
     | .rd => .Z_ (LE P key st o.op) fun v=> .ret (st.put o.dst (.g key v))
     | .call f xs=>eK Γ key st f xs o.dst
     | _=> .no
   | none=> .no
section
variable {H:Az T} {P:Program} {I:World->Prop} {Γ:List (CE T P I)} {st:Ag T} {ops:Array Oper}
theorem LK (H:Az T) (n:Nat):Fh H n []:=fun _ hl=>by cases hl
theorem LL (hw:AK H st) {o:Oper} {Φ:Ag T->Prop} (h: ∀ v:DV T,v.ok H st.nx->(DQ P st.toSt true o.op).1->(DQ P st.toSt true o.op).2=v.toV->Φ (st.put o.dst v)):Yl (M.Z_ (LE P [] st o.op) fun v=> .ret (st.put o.dst v)) Φ:=
 Yl.Z_ (LF hw (LK _ _) o.op) fun v hv=>by obtain⟨a,b,c⟩:=hv rfl;exact Yl.ret (h v a b c)
theorem gZ (hw:AK H st) (o:Oper):Yl (dop Γ ops o st) (xv H P I ops st o):=by
 unfold dop;split
 ·rename_i hg;have W: ∀ {d_:Ag T},((∃ H',Nx H st H' d_)/\d_.pre=st.pre/\ ∀ K:St->Prop,K d_.toSt->tX P I o st.toSt K)->xv H P I ops st o d_:=fun⟨a,b,c⟩=>⟨a,b,fun K hK=>by unfold dG;rw [hg];exact c K hK⟩;split
  ·rename_i hk;refine LL hw fun v hv h1 h2=>W ⟨Ag.aaL hw _ hv,AW _ _ _,fun K hK=> .inr ?_⟩;grind [Ag.r_]
  ·rename_i hk;refine(W3 hw o).mono fun d_ h=>?_;obtain⟨h1,h2,h3,h4⟩:=h;refine W ⟨h1,h4,fun K hK=> .inl fun F a w G Q hI hR=>?_⟩;obtain⟨nx,w',G',q1,q2⟩:=(Rc hR h2).out;unfold Oper.wp Oper.upon;rw [q1];rcases q2 with ⟨v,rfl,q3⟩ | ⟨rfl,q3⟩
   ·exact⟨_,G',hK,q3.less h3⟩
   ·exact⟨_,G',hK,q3.less h3⟩
  ·rename_i f xs hk;exact(uF hw hk).mono fun d_ h=>W h
  ·rename_i x hk;split
   ·rename_i u hx;obtain⟨a1,a2,a3⟩:=Hd hw hx;split
    ·rename_i id ho;have hu:u= .c (.c (.n_ id)):=by unfold AgD at ho;grind [El]
     split
     ·rename_i s hs;obtain⟨⟨H1,hN⟩,h2,h3,h4⟩:=Ag.ag2 hw hs;have aDZ:st.toSt.cutAt true x=s.toSt:=by grind [St.cutAt,DV.toV,DC.toC]
      refine LL hN.ok fun v hv q1 q2=>W ⟨Ag.Th hN _ hv,by rw [AW];exact h4,fun K hK=> .inr ?_⟩;grind [Ag.r_]
     ·exact Yl.no
    ·rename_i ho;have aDZ:st.toSt.cutAt true x=st.toSt:=by
      unfold St.cutAt;rw [a3];split
      ·rename_i id he;exfalso;cases u with
       | c y=>
         simp only [DV.toV,V.c.injEq]at he;exact Mt ho id he
       | _=>simp [DV.toV]at he
      ·rfl
     refine LL hw fun v hv q1 q2=>W ⟨Ag.aaL hw _ hv,AW _ _ _,fun K hK=> .inr ?_⟩;grind [Ag.r_]
   ·exact Yl.no
  ·exact Yl.no
 ·rename_i j want hg;split
  ·rename_i key arM;obtain⟨g1,g2,g3⟩:=N0 hw arM;have W: ∀ {d_:Ag T},((∃ H',Nx H st H' d_)/\d_.pre=st.pre/\ ∀ K:St->Prop,K d_.toSt->wpG P I o st.toSt (Bb key) K)->xv H P I ops st o d_:=fun⟨a,b,c⟩=>⟨a,b,fun K hK=>by unfold dG;rw [hg];simp only [g1];exact c K hK⟩;split
   ·rename_i hk;refine Yl.Z_ (LF hw g2 o.op) fun v hv=>Yl.ret (W ⟨LJ hw g2 _ (fun hc=>(hv hc).1),AW _ _ _,fun K hK=> .inr ?_⟩);rw [hk];refine⟨v.toV,fun hc=>(hv hc).2,?_⟩;grind [Ag.r_,DV.toV]
   ·rename_i f xs hk;exact(uG hw hk g2 g3).mono fun d_ h=>W h
   ·exact Yl.no
  ·exact Yl.no
def AgE {P:Program} {I:World->Prop} (Γ:List (CE T P I)) (ops:Array Oper):List Oper->Ag T->M (Ag T)
 | [],st=> .ret st
 | o::rest,st=> .Z_ (dop Γ ops o st) fun d_=>AgE Γ ops rest d_
theorem AaR: ∀ (l:List Oper) (st:Ag T) (H:Az T),AK H st->Yl (AgE Γ ops l st) (fun d_=>(∃ H',Nx H st H' d_)/\d_.pre=st.pre/\ ∀ K:St->Prop,K d_.toSt->E5 P I ops l st.toSt K)
 | [],st,H,hw=>Yl.ret ⟨⟨H,Nx.refl hw⟩,rfl,fun _ hK=>hK⟩
 | o::rest,st,H,hw=>Yl.Z_ (gZ hw o) fun s hs=>by obtain⟨⟨H1,h1⟩,h2,h3⟩:=hs;refine(AaR rest s H1 h1.ok).mono fun s' hs'=>?_;obtain⟨⟨H2,k1⟩,k2,k3⟩:=hs';exact⟨⟨H2,h1.trans k1⟩,k2.trans h2,fun K hK=>h3 _ (k3 K hK)⟩
def hH {P:Program} {I:World->Prop} (Γ:List (CE T P I)) (key:List GL) (st:Ag T) (f:FuncId) (xs:List Operand):M (DV T):=
 match Iu st key xs with
 | some vs=>match Ms st vs with
   | some ws=>match Qx f ws Γ with
     | some ⟨e,x⟩=>mIf (e.rs.all (TY T)) (.opt (gk key (e.run x)) fun r=> .ret (TW e.rs r))
     | none=> .no
   | none=> .no
 | none=> .no
def Ad4 {P:Program} {I:World->Prop} (Γ:List (CE T P I)) (ops:Array Oper) (o:Oper) (st:Ag T):M (Ag T):=
 match o.guard with
 | none=>match Cb o.op with
   | .rd => .Z_ (LE P [] st o.op) fun v=> .ret (st.put o.dst v)
   | .call f xs=> .Z_ (hH Γ [] st f xs) fun v=> .ret (st.put o.dst v)
   | .cut _=> .Z_ (LE P [] st o.op) fun v=> .ret (st.put o.dst v)
   | _=> .no
 | some (j,want)=>match YE st ops j want with
   | some key=>match Cb o.op with
     | .rd => .Z_ (LE P key st o.op) fun v=> .ret (st.put o.dst (.g key v))
     | .call f xs=> .Z_ (hH Γ key st f xs) fun v=> .ret (st.put o.dst (.g key v))
     | .cut _=> .Z_ (LE P key st o.op) fun v=> .ret (st.put o.dst (.g key v))
     | _=> .no
   | none=> .no
theorem eM {key:List GL} (hw:AK H st) (hk:Fh H st.nx key) {f:FuncId} {xs:List Operand}:
 Yl (hH Γ key st f xs) (fun v=>(∀ n,v.ok H n)/\v.toV.flat=true/\(Bb key=true->(st.toSt.args (Bb key) xs).1/\B9 ((st.toSt.args (Bb key) xs).2.map (BC st.toSt))=true)/\(Bb key=true->CZ P I f ((st.toSt.args (Bb key) xs).2.map (BC st.toSt)) (· =v.toV))):=by
 unfold hH;split
 ·rename_i vs hvs;split
  ·rename_i ws hws;split
   ·rename_i e x hx;obtain⟨he,hx⟩:=FY hx;refine Yl.mIf fun hf=>Yl.opt fun r hr=>Yl.ret ?_;have hs:(Be vs).map (BC st.toSt)=FX e.ps x:=by rw [Gk hws,hx]
    rw [TZ _ hvs,hs,NY];refine⟨fun n=>RA _ _,by rw [LH];exact hf,fun hc=>⟨(Dc hw hk hc hvs).2.1,JH _ _⟩,fun hc=>?_⟩;have hp:=e.ok x r (Rq hr hc);grind
   ·exact Yl.no
  ·exact Yl.no
 ·exact Yl.no
theorem AaS (hw:AK H st) (o:Oper):Yl (Ad4 Γ ops o st) (fun d_=>(∃ H',Nx H st H' d_)/\d_.pre=st.pre/\ ∀ K:St->Prop,K d_.toSt->wqO P I ops o st.toSt K):=by
 unfold Ad4;split
 ·rename_i hg;have W: ∀ {d_:Ag T},((∃ H',Nx H st H' d_)/\d_.pre=st.pre/\ ∀ K:St->Prop,K d_.toSt->wq1 P I o st.toSt K)->(∃ H',Nx H st H' d_)/\d_.pre=st.pre/\ ∀ K:St->Prop,K d_.toSt->wqO P I ops o st.toSt K:=(by grind [wqO]);split
  ·rename_i hk;refine LL hw fun v hv h1 h2=>W ⟨Ag.aaL hw _ hv,AW _ _ _,fun K hK=>?_⟩;grind [wq1,Ag.r_]
  ·rename_i f xs hk;refine Yl.Z_ (eM hw (LK _ _)) fun v hv=>Yl.ret (W ⟨Ag.aaL hw _ (hv.1 _),AW _ _ _,fun K hK=>?_⟩);obtain⟨q1,q2,q3,q4⟩:=hv;unfold wq1;rw [hk];exact⟨(q3 rfl).1,(q3 rfl).2,v.toV,q2,q4 rfl,by grind [Ag.r_]⟩
  ·rename_i x hk;refine LL hw fun v hv h1 h2=>W ⟨Ag.aaL hw _ hv,AW _ _ _,fun K hK=>?_⟩;grind [wq1,Ag.r_]
  ·exact Yl.no
 ·rename_i j want hg;split
  ·rename_i key arM;obtain⟨g1,g2,g3⟩:=N0 hw arM;have W: ∀ {d_:Ag T},((∃ H',Nx H st H' d_)/\d_.pre=st.pre/\ ∀ K:St->Prop,K d_.toSt->wqG P I o st.toSt (Bb key) K)->(∃ H',Nx H st H' d_)/\d_.pre=st.pre/\ ∀ K:St->Prop,K d_.toSt->wqO P I ops o st.toSt K:=(by simp_all [wqO]);split
   ·rename_i hk;refine Yl.Z_ (LF hw g2 o.op) fun v hv=>Yl.ret (W ⟨LJ hw g2 _ (fun hc=>(hv hc).1),AW _ _ _,fun K hK=>?_⟩);unfold wqG;rw [hk];refine⟨v.toV,fun hc=>(hv hc).2,?_⟩;grind [Ag.r_,DV.toV]
   ·rename_i f xs hk;refine Yl.Z_ (eM hw g2) fun v hv=>Yl.ret (W ⟨LJ hw g2 _ (fun _=>hv.1 _),AW _ _ _,fun K hK=>?_⟩);grind [wqG,Ag.r_,DV.toV]
   ·rename_i x hk;refine Yl.Z_ (LF hw g2 o.op) fun v hv=>Yl.ret (W ⟨LJ hw g2 _ (fun hc=>(hv hc).1),AW _ _ _,fun K hK=>?_⟩);unfold wqG;rw [hk];refine⟨v.toV,fun hc=>(hv hc).2,?_⟩;grind [Ag.r_,DV.toV]
   ·exact Yl.no
  ·exact Yl.no
def xw {P:Program} {I:World->Prop} (Γ:List (CE T P I)) (ops:Array Oper):List Oper->Ag T->M (Ag T)
 | [],st=> .ret st
 | o::rest,st=> .Z_ (Ad4 Γ ops o st) fun d_=>xw Γ ops rest d_
theorem lE: ∀ (l:List Oper) (st:Ag T) (H:Az T),AK H st->Yl (xw Γ ops l st) (fun d_=>(∃ H',Nx H st H' d_)/\d_.pre=st.pre/\ ∀ K:St->Prop,K d_.toSt->dH P I ops l st.toSt K)
 | [],st,H,hw=>Yl.ret ⟨⟨H,Nx.refl hw⟩,rfl,fun _ hK=>hK⟩
 | o::rest,st,H,hw=>Yl.Z_ (AaS hw o) fun s hs=>by obtain⟨⟨H1,h1⟩,h2,h3⟩:=hs;refine(lE rest s H1 h1.ok).mono fun s' hs'=>?_;obtain⟨⟨H2,k1⟩,k2,k3⟩:=hs';exact⟨⟨H2,h1.trans k1⟩,k2.trans h2,fun K hK=>h3 _ (k3 K hK)⟩
end
end Go.PL
namespace Go.PL
open Go Go.RowKit
variable {T:Bl}
def YF (v v':V):Prop:= ∀ (w:World) (G:AJ) (u:Value),Ad w G v u->Ad w G v' u
def bR (c c':C):Prop:= ∀ (w:World) (G:AJ) (u:Value),Af w G c u->Af w G c' u
def Ep:List C->List C->Prop
 | [],[]=>True
 | c::cs,d::ds=>bR c d/\Ep cs ds
 | _,_=>False
theorem bR.refl (c:C):bR c c:=fun _ _ _ h=>h
theorem YF.refl (c:V):YF c c:=fun _ _ _ h=>h
theorem bR.agz {c d:C} (h:GO c=d):bR c d:=fun _ _ _ hr=>h▸IY hr
theorem Ep.length: ∀ {cs ds:List C},Ep cs ds->cs.length=ds.length
 | [],[],_=>rfl
 | [],_::_,h=>h.elim
 | _::_,[],h=>h.elim
 | c::cs,d::ds,h=>by simp [Ep.length h.2]
theorem Ep.append: ∀ {a b x y:List C},Ep a b->Ep x y->Ep (a++x) (b++y)
 | [],[],_,_,_,h=>h
 | [],_::_,_,_,h,_=>h.elim
 | _::_,[],_,_,h,_=>h.elim
 | c::cs,d::ds,_,_,h,k=>⟨h.1,Ep.append h.2 k⟩
theorem Ep.agz: ∀ {cs ds:List C},cs.map GO=ds->Ep cs ds
 | [],ds,h=>by simp at h;subst h;trivial
 | c::cs,ds,h=>by subst h;exact⟨bR.agz rfl,Ep.agz rfl⟩
theorem Ep.refl: ∀ cs:List C,Ep cs cs
 | []=>trivial
 | c::cs=>⟨bR.refl c,Ep.refl cs⟩
theorem Am.imp {w:World} {G:AJ}: ∀ {cs ds:List C} {b off:Nat},Ep cs ds->Am w G cs b off->Am w G ds b off
 | [],[],_,_,_,h=>h
 | [],_::_,_,_,h,_=>h.elim
 | _::_,[],_,_,h,_=>h.elim
 | c::cs,d::ds,b,off,h,hr=>by simp only [Am]at hr ⊢;obtain⟨⟨v,h1,h2⟩,h3⟩:=hr;exact⟨⟨v,h1,h.1 _ _ _ h2⟩,Am.imp h.2 h3⟩
theorem Ai.imp {w:World} {G:AJ}: ∀ {cs ds:List C} {vs:List Value},Ep cs ds->Ai w G cs vs->Ai w G ds vs
 | [],[],_,_,h=>h
 | [],_::_,_,h,_=>h.elim
 | _::_,[],_,h,_=>h.elim
 | c::cs,d::ds,[],_,hr=>by simp only [Ai]at hr
 | c::cs,d::ds,v::vs,h,hr=>by simp only [Ai]at hr ⊢;exact⟨h.1 _ _ _ hr.1,Ai.imp h.2 hr.2⟩
structure Wkn (st d_:St):Prop where
 len:d_.tm.length=st.tm.length
 tm: ∀ i,YF (st.tm.getD i .undef) (d_.tm.getD i .undef)
 so: ∀ e'∈d_.so,e'∈st.so\/ ∃ cs cs',(⟨e'.id,none,cs,false⟩:AB)∈st.so/\e'=⟨e'.id,none,cs',false⟩/\Ep cs cs'/\gf cs=false
 nd:(d_.so.map (·.id)).Nodup
 gh:d_.gh=st.gh
 pre:d_.pre=st.pre
theorem R.wkn {F:Fr} {st d_:St} {a:Act} {w:World} {G:AJ} (h:R F st a w G) (k:Wkn st d_):R F d_ a w G:={
 dfr:=h.dfr
 size:=by rw [k.len];exact h.size
 M_:=fun i=>k.tm i _ _ _ (h.M_ i)
 Tk:=by rw [k.gh];exact h.Tk
 store:=fun e he=>by
  rcases k.so e he with q | ⟨cs,cs',q1,q2,q3,q4⟩
  ·exact h.store e q
  ·have:=h.store _ q1;rw [q2];simp only [Ba]at this ⊢;obtain⟨b,h1,h2⟩:=this;obtain⟨Ty,cur,h3,h4,h5⟩:=h2.cells q4;exact⟨b,h1, .inr ⟨Ty,cur,h3,by rw [h4,q3.length],h5.imp q3⟩⟩
 deep:=fun e he=>by
  rcases k.so e he with q | ⟨cs,cs',q1,q2,q3,q4⟩
  ·exact h.deep e q
  ·have:=h.deep _ q1;rw [q2];exact⟨this.1,fun hd=>by have:=(this.2 hd).1;cases this⟩
 P_:=fun e he hp=>by
  rcases k.so e he with q | ⟨cs,cs',q1,q2,q3,q4⟩
  ·exact h.P_ e q hp
  grind
 nodup:=k.nd
 inj:=h.inj,lt:=h.lt,new:=h.new,wr:=h.wr,abi:=h.abi,inv:=h.inv,aaI:=h.aaI,os:=h.os,tape:=h.tape,output:=h.output,L_:=h.L_,ext:=h.ext}
theorem Wk.wkn {st d_:St} (k:Wkn st d_):Wk st d_:=fun _ _ _ G hR=>⟨G,hR.wkn k⟩
inductive Sg where
 | v (t:VT)
 | c (x:C)
inductive VSp where
 | c (s:Sg)
 | agg (l:List Sg)
inductive ESp where
 | box (l:List Sg)
 | row (E:Nat)
 | deep (E:Nat)
structure HV where
 ks:List Nat
 vs:List (Nat×VSp)
 ke:List Ah
 es:List (Ah×ESp)
def Sg.ts:List Sg->List VT
 | []=>[]
 | .v t::r=>t::Sg.ts r
 | .c _::r=>Sg.ts r
def VSp.ts:VSp->List VT
 | .c s=>Sg.ts [s]
 | .agg l=>Sg.ts l
def ESp.ts:ESp->List VT
 | .box l=>Sg.ts l
 | .row E=>[.k (.u_ E)]
 | .deep E=>[.k (.int .i64), .k (.u_ E)]
def AgF:List (Nat×VSp)->List VT
 | []=>[]
 | (_,p)::r=>p.ts++AgF r
def AgG:List (Ah×ESp)->List VT
 | []=>[]
 | (_,p)::r=>p.ts++AgG r
def HV.ts (sh:HV):List VT:=AgF sh.vs++AgG sh.es
def okC (x c:C):Bool:=match x,c with
 | .any,_=>true
 | .n_ i, .n_ j=>Bc i j
 | .ptr i o, .ptr j o'=>Bc i j&&Nat.beq o o'
 | .acV, .acV =>true
 | .aaJ, .aaJ =>true
 | .held, .held =>true
 | .Tv, .Tv =>true
 | .fn f, .fn g=>Nat.beq f g
 | _,_=>false
theorem AaT {x c:C} (h:okC x c=true):bR c x:=by
 unfold okC at h;split at h
 ·intro w G u hr;simp only [Af];exact hr.one
 all_goals simp_all [AQ,bR.refl]
def Kq:List Sg->List (DC T)->Option (List (DV T)×List (DC T))
 | [],cs=>some ([],cs)
 | .c x::r,c::cs=>match okC x c.toC with
   | true=>Kq r cs
   | false=>none
 | .v (.k _)::r,c::cs=>match Kq r cs with
   | some (vs,ds)=>some (.c c::vs,ds)
   | none=>none
 | .v (.s E)::r,cs=>match Nat.ble (T.sz E) cs.length,Kq r (cs.drop (T.sz E))with
   | true,some (vs,ds)=>some (.agg (cs.take (T.sz E))::vs,ds)
   | _,_=>none
 | _,_=>none
def FZ:List Sg->List (DV T)->Option (List (DC T)×List (DV T))
 | [],vs=>some ([],vs)
 | .c x::r,vs=>match FZ r vs with
   | some (cs,us)=>some (.c x::cs,us)
   | none=>none
 | .v _::r, .c y::vs=>match FZ r vs with
   | some (cs,us)=>some (y::cs,us)
   | none=>none
 | .v _::r, .agg ds::vs=>match FZ r vs with
   | some (cs,us)=>some (ds++cs,us)
   | none=>none
 | _::_,_=>none
def WkV (v v':DV T):Prop:=(∃ c c',v= .c c/\v'= .c c'/\GO c.toC=c'.toC/\c'.ok)\/(∃ cs cs',v= .agg cs/\v'= .agg cs'/\(Ax cs).map GO=Ax cs'/\B3 cs')
inductive afF {α β:Type} (P:α->β->Prop):List α->List β->Prop
 | nil:afF P [] []
 | cons {a b l m}:P a b->afF P l m->afF P (a::l) (b::m)
theorem afF.aer {α β:Type} {P:α->β->Prop}: ∀ {a b:List α} {m:List β},afF P (a++b) m-> ∃ x y,m=x++y/\afF P a x/\afF P b y
 | [],b,m,h=>⟨[],m,rfl, .nil,h⟩
 | c::a,b,m,h=>by
   cases h with
   | cons h1 h2=>
     obtain⟨x,y,e,p,q⟩:=afF.aer h2;subst e;exact⟨_::x,y,rfl, .cons h1 p,q⟩
theorem Hf: ∀ {l:List Sg} {cs ds:List (DC T)} {vs vs':List (DV T)} {cs':List (DC T)} {us us':List (DV T)},Kq l cs=some (vs,ds)->afF WkV vs vs'->FZ l (vs'++us)=some (cs',us')->
 us'=us/\Ep (Ax cs) (Ax cs'++Ax ds)/\B3 cs'
 | [],cs,ds,vs,vs',cs',us,us',h,hw,hi=>by
   simp only [Kq,injEq,Prod.mk.injEq]at h;obtain⟨rfl,rfl⟩:=h;cases hw
   simp only [FZ,nil_append,injEq,Prod.mk.injEq]at hi;obtain⟨rfl,rfl⟩:=hi;exact⟨rfl,by grind [Ax,Ep.refl],by simp [B3]⟩
 | .c x::r,c::cs,ds,vs,vs',cs',us,us',h,hw,hi=>by
   simp only [Kq]at h;split at h
   ·rename_i ho;simp only [FZ]at hi;split at hi
    ·rename_i cs1 us1 h1;simp only [injEq,Prod.mk.injEq]at hi;obtain⟨rfl,rfl⟩:=hi;obtain⟨a,b,d⟩:=Hf h hw h1;refine⟨a,?_,by simp_all [B3,DC.ok]⟩;simp only [Ax,cons_append,DC.toC];exact⟨AaT ho,b⟩
    ·cases hi
   ·cases h
 | .v (.k kd)::r,c::cs,ds,vs,vs',cs',us,us',h,hw,hi=>by
   simp only [Kq]at h;split at h
   ·rename_i vs1 ds1 h1;simp only [injEq,Prod.mk.injEq]at h;obtain⟨rfl,rfl⟩:=h;cases hw with
    | cons p q=>
      rename_i b m;rcases p with ⟨c0,c',e1,e2,e3,e4⟩ | ⟨_,_,e1,_⟩
      ·injection e1 with e1;subst e1 e2;simp only [cons_append,FZ]at hi;split at hi
       ·rename_i cs1 us1 h2;simp only [injEq,Prod.mk.injEq]at hi;obtain⟨rfl,rfl⟩:=hi;obtain⟨a,b,d⟩:=Hf h1 q h2;refine⟨a,?_,by grind [B3]⟩;simp only [Ax,cons_append];exact⟨bR.agz e3,b⟩
       ·cases hi
      ·cases e1
   ·cases h
 | .v (.s E)::r,cs,ds,vs,vs',cs',us,us',h,hw,hi=>by
   simp only [Kq]at h;split at h
   ·rename_i vs1 ds1 hb h1;simp only [injEq,Prod.mk.injEq]at h;obtain⟨rfl,rfl⟩:=h;cases hw with
    | cons p q=>
      rename_i b m;rcases p with ⟨_,_,e1,_⟩ | ⟨c0,c',e1,e2,e3,e4⟩
      ·cases e1
      ·injection e1 with e1;subst e1 e2;simp only [cons_append,FZ]at hi;split at hi
       ·rename_i cs1 us1 h2;simp only [injEq,Prod.mk.injEq]at hi;obtain⟨rfl,rfl⟩:=hi;obtain⟨a,b,d⟩:=Hf h1 q h2;refine⟨a,?_,C7 e4 d⟩;have e:Ax cs=Ax (cs.take (T.sz E))++Ax (cs.drop (T.sz E)):=by rw [<-CF,List.take_append_drop]
        rw [e,CF,append_assoc];exact(Ep.agz e3).append b
       ·cases hi
   ·cases h
 | .c _::_,[],_,_,_,_,_,_,h,_,_=>by simp [Kq]at h
 | .v (.k _)::_,[],_,_,_,_,_,_,h,_,_=>by simp [Kq]at h
 | .v (.f _)::_,_,_,_,_,_,_,_,h,_,_=>by simp [Kq]at h
def Ad5:VSp->DV T->Option (List (DV T))
 | .c s, .c x=>match Kq [s] [x]with
   | some (vs,[])=>some vs
   | _=>none
 | .agg l, .agg cs=>match Kq l cs with
   | some (vs,[])=>some vs
   | _=>none
 | _,_=>none
def uH:VSp->List (DV T)->Option (DV T×List (DV T))
 | .c s,vs=>match FZ [s] vs with
   | some ([c],us)=>some (.c c,us)
   | _=>none
 | .agg l,vs=>match FZ l vs with
   | some (cs,us)=>some (.agg cs,us)
   | none=>none
theorem uI {p:VSp} {v:DV T} {vs vs' us us':List (DV T)} {v':DV T} (h:Ad5 p v=some vs) (hw:afF WkV vs vs') (hi:uH p (vs'++us)=some (v',us')):us'=us/\YF v.toV v'.toV:=by
 unfold Ad5 at h;split at h
 ·rename_i s x;split at h
  ·rename_i vs1 h1;injection h with h;subst h;simp only [uH]at hi;split at hi
   ·rename_i c us1 h2;simp only [injEq,Prod.mk.injEq]at hi;obtain⟨rfl,rfl⟩:=hi;obtain⟨a,b,d⟩:=Hf h1 hw h2;refine⟨a,?_⟩;simp only [Ax,append_nil,Ep,and_true]at b;intro w G u hr;simp only [DV.toV,Ad]at hr ⊢;exact b _ _ _ hr
   ·cases hi
  ·cases h
 ·rename_i l cs;split at h
  ·rename_i vs1 h1;injection h with h;subst h;simp only [uH]at hi;split at hi
   ·rename_i c us1 h2;simp only [injEq,Prod.mk.injEq]at hi;obtain⟨rfl,rfl⟩:=hi;obtain⟨a,b,d⟩:=Hf h1 hw h2;refine⟨a,?_⟩;simp only [Ax,append_nil]at b;intro w G u hr;simp only [DV.toV,Ad]at hr ⊢;obtain⟨arr,e,hr⟩:=hr;exact⟨arr,e,hr.imp b⟩
   ·cases hi
  ·cases h
 ·cases h
def uJ (v:DV T):Prop:= ∀ (H:Az T) (n:Nat),v.ok H n
theorem LM: ∀ {l:List Sg} {vs us:List (DV T)} {cs:List (DC T)},(∀ v∈vs,uJ v)->FZ l vs=some (cs,us)->B3 cs/\ ∀ v∈us,uJ v
 | [],vs,us,cs,hv,h=>by simp only [FZ,injEq,Prod.mk.injEq]at h;obtain⟨rfl,rfl⟩:=h;grind [B3]
 | .c x::r,vs,us,cs,hv,h=>by
   simp only [FZ]at h;split at h
   ·rename_i cs1 us1 h1;simp only [injEq,Prod.mk.injEq]at h;obtain⟨rfl,rfl⟩:=h;obtain⟨a,b⟩:=LM hv h1;simp_all [B3,DC.ok]
   ·cases h
 | .v t::r,vs,us,cs,hv,h=>by
   match vs,hv,h with
   | .c y::vs,hv,h=>
     simp only [FZ]at h;split at h
     ·rename_i cs1 us1 h1;simp only [injEq,Prod.mk.injEq]at h;obtain⟨rfl,rfl⟩:=h;obtain⟨a,b⟩:=LM (fun v hm=>hv v (by simp [hm])) h1;have:=hv (.c y) (by simp) ⟨fun _=> .u,fun _=>⟨[],0, .box []⟩⟩ 0;simp only [DV.ok]at this;exact⟨by simp only [B3];exact⟨this,a⟩,b⟩
     ·cases h
   | .agg ds::vs,hv,h=>
     simp only [FZ]at h;split at h
     ·rename_i cs1 us1 h1;simp only [injEq,Prod.mk.injEq]at h;obtain⟨rfl,rfl⟩:=h;obtain⟨a,b⟩:=LM (fun v hm=>hv v (by simp [hm])) h1;have:=hv (.agg ds) (by simp) ⟨fun _=> .u,fun _=>⟨[],0, .box []⟩⟩ 0;simp only [DV.ok]at this;exact⟨C7 this a,b⟩
     ·cases h
   | [],_,h=>simp [FZ]at h
   | .tup _::_,_,h=>simp [FZ]at h
   | .g _ _::_,_,h=>simp [FZ]at h
   | .u ::_,_,h=>simp [FZ]at h
theorem AaV {p:VSp} {vs us:List (DV T)} {v:DV T} (hv: ∀ v∈vs,uJ v) (h:uH p vs=some (v,us)):uJ v/\ ∀ v∈us,uJ v:=by
 unfold uH at h;split at h
 ·split at h
  ·rename_i c us1 h1;simp only [injEq,Prod.mk.injEq]at h;obtain⟨rfl,rfl⟩:=h;obtain⟨a,b⟩:=LM hv h1;simp only [B3,and_true]at a;exact⟨fun H n=>by simp only [DV.ok];exact a,b⟩
  ·cases h
 ·split at h
  ·rename_i c us1 h1;simp only [injEq,Prod.mk.injEq]at h;obtain⟨rfl,rfl⟩:=h;obtain⟨a,b⟩:=LM hv h1;exact⟨fun H n=>by simp only [DV.ok];exact a,b⟩
  ·cases h
end Go.PL
namespace Go.PL
open Go Go.RowKit
variable {T:Bl}
def hY (kd:Kd) (v:DV T):Option (OW T.den kd):=match asC v with
 | some x=>HN true kd x
 | none=>none
def hZ (E:Nat) (v:DV T):Option (T.den E):=match asA v with
 | some cs=>wj true E cs
 | none=>none
def YG:(t:VT)->DV T->Option (En T t)
 | .k kd,v=>hY kd v
 | .s E,v=>hZ E v
 | .f _,_=>none
theorem ia {kd:Kd} {v:DV T} {x:OW T.den kd} (h:hY kd v=some x):WkV v (.c (.k kd x)):=by
 unfold hY at h;split at h
 ·rename_i y hy;exact .inl ⟨y,_,Yu hy,rfl,(Cv h).1,by simp only [DC.ok]⟩
 ·cases h
theorem ib {E:Nat} {v:DV T} {x:T.den E} (h:hZ E v=some x):WkV v (.agg (gP E x)):=by
 unfold hZ at h;split at h
 ·rename_i y hy;exact .inr ⟨y,_,Yv hy,rfl,by grind [Gj,HO],Mp E x⟩
 ·cases h
theorem Vw {t:VT} {v:DV T} {x:En T t} (h:YG t v=some x):WkV v (PG t x):=by
 cases t with
 | k kd=>exact ia h
 | s E=>exact ib h
 | f g=>cases h
def sv {α β:Type}:Option α->Option β->Option (α×β)
 | some x,some y=>some (x,y)
 | _,_=>none
theorem pG {α β:Type} {a:Option α} {b:Option β} {x:α×β} (h:sv a b=some x):a=some x.1/\b=some x.2:=by
 cases a<;>cases b<;>simp [sv]at h
 grind
def ic:(ts:List VT)->List (DV T)->Option (RT T ts)
 | [],[]=>some ()
 | [t],[v]=>YG t v
 | t::u::ts,v::vs=>sv (YG t v) (ic (u::ts) vs)
 | _,_=>none
theorem Vx: ∀ {ts:List VT} {vs:List (DV T)} {x:RT T ts},ic ts vs=some x->afF WkV vs (Cw ts x)
 | [],[],x,_=> .nil
 | [],_::_,x,h=>by cases (show (none:Option (RT T []))=some x from h)
 | [t],[v],x,h=> .cons (Vw (show YG t v=some x from h)) .nil
 | [t],[],x,h=>by cases (show (none:Option (RT T [t]))=some x from h)
 | [t],v::w::vs,x,h=>by cases (show (none:Option (RT T [t]))=some x from h)
 | t::u::ts,[],x,h=>by cases (show (none:Option (RT T (t::u::ts)))=some x from h)
 | t::u::ts,v::vs,x,h=>by obtain⟨h1,h2⟩:=pG (show sv (YG t v) (ic (u::ts) vs)=some x from h);exact .cons (Vw h1) (Vx h2)
theorem Eq (ts:List VT) (x:RT T ts): ∀ v∈Cw ts x,uJ v:=fun v hv H n=>NN.1 (TX (H:=H) (nx:=n) ts x) v hv
def N1 (tm:Tm T):List (Nat×VSp)->Option (List (DV T))
 | []=>some []
 | (s,p)::r=>match Ad5 p (lk tm s),N1 tm r with
   | some a,some b=>some (a++b)
   | _,_=>none
def HW:List (Nat×VSp)->List (DV T)->Ag T->Option (Ag T×List (DV T))
 | [],vs,st=>some (st,vs)
 | (s,p)::r,vs,st=>match uH p vs with
   | some (v,us)=>HW r us (st.put (some s) v)
   | none=>none
theorem Kr {H:Az T} {st0:Ag T}: ∀ {l:List (Nat×VSp)} {vs us:List (DV T)} {st d_:Ag T} {H1:Az T},Nx H st0 H1 st->(∀ v∈vs,uJ v)->HW l vs st=some (d_,us)->
 (∃ H',Nx H st0 H' d_)/\(∀ v∈us,uJ v)/\d_.so=st.so/\d_.gh=st.gh/\d_.pre=st.pre/\d_.m=st.m
 | [],vs,us,st,d_,H1,hn,hv,h=>by simp only [HW,injEq,Prod.mk.injEq]at h;grind
 | (s,p)::r,vs,us,st,d_,H1,hn,hv,h=>by
   simp only [HW]at h;split at h
   ·rename_i v us1 h1;obtain⟨a,b⟩:=AaV hv h1;obtain⟨H2,h2⟩:=Ag.Th hn (some s) (a H1 _);obtain⟨c1,c2,c3,c4,c5,c6⟩:=Kr h2 b h;exact⟨c1,c2,c3,c4,c5,c6⟩
   ·cases h
theorem xy (st:Ag T) (s i:Nat) (v:DV T):lk (st.put (some s) v).tm i=if s=i then v else lk st.tm i:=by
 simp only [Ag.put,lk];by_cases h:s=i
 ·simp_all
 ·rw [if_neg h];grind [eq_of_beq_eq_true]
theorem eN {tm:Tm T}: ∀ {l:List (Nat×VSp)} {vs vs' us us':List (DV T)} {st d_:Ag T},N1 tm l=some vs->afF WkV vs vs'->HW l (vs'++us) st=some (d_,us')->(∀ i,YF (lk tm i).toV (lk st.tm i).toV)->
 us'=us/\ ∀ i,YF (lk tm i).toV (lk d_.tm i).toV
 | [],vs,vs',us,us',st,d_,h,hw,hi,hs=>by
   simp only [N1,injEq]at h;subst h;cases hw
   simp only [HW,nil_append,injEq,Prod.mk.injEq]at hi;grind
 | (s,p)::r,vs,vs',us,us',st,d_,h,hw,hi,hs=>by
   simp only [N1]at h;split at h
   ·rename_i a b h1 h2;injection h with h;subst h;obtain⟨x,y,rfl,k1,k2⟩:=afF.aer hw;simp only [HW]at hi;split at hi
    ·rename_i v us1 h3;rw [append_assoc]at h3;obtain⟨e,hv⟩:=uI h1 k1 h3;subst e;refine eN h2 k2 hi fun i=>?_;rw [xy];split
     ·rename_i e;subst e;exact hv
     ·exact hs i
    ·cases hi
   ·cases h
def Ad6 (l:List (DE T)) (id:Ah) (p:ESp):Option (List (DV T)):=match GP l id,p with
 | some e, .box sg=>match e.x with
   | .box cs=>match sd cs,Kq sg cs with
     | false,some (vs,[])=>some vs
     | _,_=>none
   | _=>none
 | some e, .row E0=>match e.x with
   | .row E l=>match Nat.beq E E0 with
     | true=>some [.c (.k (.u_ E) l)]
     | false=>none
   | _=>none
 | some e, .deep E0=>match e.x with
   | .deep E n l none=>match Nat.beq E E0 with
     | true=>some [.c (.k (.int .i64) n), .c (.k (.u_ E) l)]
     | false=>none
   | _=>none
 | none,_=>none
def pH:ESp->List (DV T)->Option (DX T×List (DV T))
 | .box sg,vs=>match FZ sg vs with
   | some (cs,us)=>some (.box cs,us)
   | none=>none
 | .row E0, .c (.k (.u_ E) l)::vs=>match Nat.beq E E0 with
   | true=>some (.row E l,vs)
   | false=>none
 | .deep E0, .c (.k (.int .i64) n):: .c (.k (.u_ E) l)::vs=>match Nat.beq E E0 with
   | true=>some (.deep E n l none,vs)
   | false=>none
 | _,_=>none
def dnC (T:Bl):Kd->C->C
 | .u_ F, .sl n cs=> .isl F (T.sz F) n cs
 | _,c=>c
def Ad7 (T:Bl):List Kd->List C->List C
 | k::ks,c::cs=>dnC T k c::Ad7 T ks cs
 | _,_=>[]
theorem YH: ∀ (ks:List Kd) (y:DK T.den ks),BP T ks y=Ad7 T ks (BD T.enc ks y)
 | [],_=>rfl
 | k::ks,y=>by simp only [BP,BD,Ad7];rw [YH ks y.2];cases k<;>rfl
theorem AaW {E:Nat} {x y:T.den E} (h:T.enc E x=T.enc E y):T.abz E x=T.abz E y:=by unfold Bl.abz;rw [YH,YH,T.abw,T.abw,h]
theorem eO {E:Nat} {n:Int}: ∀ {l m:List (T.den E)} {k:Int},l.length=m.length->l.flatMap (T.enc E)=m.flatMap (T.enc E)->AH T E n k l=AH T E n k m
 | [],[],_,_,_=>rfl
 | [],_::_,_,h,_=>by simp at h
 | _::_,[],_,h,_=>by simp at h
 | x::l,y::m,k,h,q=>by simp only [flatMap_cons]at q;obtain⟨q1,q2⟩:=List.append_inj q (by rw [AV,AV]);simp only [AH];rw [q1,AaW q1,eO (by simpa using h) q2]
def RC (l:List (DE T)):List (Ah×ESp)->Option (List (DV T))
 | []=>some []
 | (id,p)::r=>match Ad6 l id p,RC l r with
   | some a,some b=>some (a++b)
   | _,_=>none
def Ag.awK (st:Ag T) (id:Ah) (x:DX T):Ag T:={st with so:=⟨id,st.nx,x⟩::st.so,nx:=st.nx+1}
def lF (id:Ah):List (DE T)->Bool
 | []=>false
 | e::r=>match Bc e.id id with
   | true=>true
   | false=>lF id r
theorem YI {id:Ah}: ∀ {l:List (DE T)},lF id l=false-> ∀ e∈l,e.id ≠ id
 | [],_,_,h=>by cases h
 | a::r,h,e,he=>by
   unfold lF at h;split at h
   ·cases h
   ·rename_i hb;rcases mem_cons.1 he with rfl | he
    ·intro q;rw [AQ.2 q]at hb;cases hb
    ·exact YI h e he
def IC:List (Ah×ESp)->List (DV T)->Ag T->Option (Ag T×List (DV T))
 | [],vs,st=>some (st,vs)
 | (id,p)::r,vs,st=>match pH p vs,lF id st.so with
   | some (x,us),false=>IC r us (st.awK id x)
   | _,_=>none
theorem AaX {p:ESp} {vs us:List (DV T)} {x:DX T} (hv: ∀ v∈vs,uJ v) (h:pH p vs=some (x,us)):x.ok/\ ∀ v∈us,uJ v:=by
 unfold pH at h;split at h
 ·split at h
  ·rename_i cs us1 h1;simp only [injEq,Prod.mk.injEq]at h;obtain⟨rfl,rfl⟩:=h;exact LM hv h1
  ·cases h
 ·split at h
  ·simp only [injEq,Prod.mk.injEq]at h;obtain⟨rfl,rfl⟩:=h;exact⟨trivial,(by grind)⟩
  ·cases h
 ·split at h
  ·simp only [injEq,Prod.mk.injEq]at h;obtain⟨rfl,rfl⟩:=h;exact⟨trivial,(by grind)⟩
  ·cases h
 ·cases h
theorem AaY {H H1:Az T} {st0 st:Ag T} (hn:Nx H st0 H1 st) {id:Ah} {x:DX T} (hx:x.ok) (hid:lF id st.so=false): ∃ H',Nx H st0 H' (st.awK id x):=by
 have he:=C4.aar H1 st.nx ⟨id,st.nx,x⟩;refine⟨H1.aar st.nx ⟨id,st.nx,x⟩,hn.trans ⟨he,le_succ _,?_,?_,?_,?_⟩⟩
 ·exact BT he (le_succ _) hn.ok.tm
 ·exact fun f hf=>BT he (le_succ _) (hn.ok.gh f hf)
 ·intro e hm;rcases mem_cons.1 hm with rfl | hm
  ·exact⟨Nat.lt_succ_self _,by simp [Az.aar],hx⟩
  ·exact Fj he (le_succ _) hn.ok.so e hm
 ·simp only [Ag.awK,map_cons];refine nodup_cons.2 ⟨fun hm=>?_,hn.ok.nd⟩;grind [YI]
theorem Mu {H:Az T} {st0:Ag T}: ∀ {l:List (Ah×ESp)} {vs us:List (DV T)} {st d_:Ag T} {H1:Az T},Nx H st0 H1 st->(∀ v∈vs,uJ v)->IC l vs st=some (d_,us)->
 (∃ H',Nx H st0 H' d_)/\d_.tm=st.tm/\d_.gh=st.gh/\d_.pre=st.pre/\d_.m=st.m
 | [],vs,us,st,d_,H1,hn,hv,h=>by simp only [IC,injEq,Prod.mk.injEq]at h;grind
 | (id,p)::r,vs,us,st,d_,H1,hn,hv,h=>by
   simp only [IC]at h;split at h
   ·rename_i x us1 h1 h2;obtain⟨a,b⟩:=AaX hv h1;obtain⟨H2,h3⟩:=AaY hn a h2;obtain⟨c1,c2,c3,c4,c5⟩:=Mu h3 b h;exact⟨c1,c2,c3,c4,c5⟩
   ·cases h
def AaZ (l:List (DE T)) (e':DE T):Prop:=e'.toE∈l.map DE.toE\/ ∃ cs cs',(⟨e'.id,none,cs,false⟩:AB)∈l.map DE.toE/\e'.toE=⟨e'.id,none,cs',false⟩/\Ep cs cs'/\gf cs=false
theorem uK {l:List (DE T)} {id:Ah} {p:ESp} {vs vs' us us':List (DV T)} {x:DX T} (h:Ad6 l id p=some vs) (hw:afF WkV vs vs') (hi:pH p (vs'++us)=some (x,us')) (t:Nat):us'=us/\AaZ l ⟨id,t,x⟩:=by
 unfold Ad6 at h;split at h
 ·rename_i e sg he;obtain⟨m1,m2,_⟩:=CM he;split at h
  ·rename_i cs hx;split at h
   ·rename_i vs1 hm h1;injection h with h;subst h;simp only [pH]at hi;split at hi
    ·rename_i cs' us1 h2;simp only [injEq,Prod.mk.injEq]at hi;obtain⟨rfl,rfl⟩:=hi;obtain⟨a,b,d⟩:=Hf h1 hw h2;simp only [Ax,append_nil]at b;refine⟨a, .inr ⟨Ax cs,Ax cs',(by grind [DE.toE_box]),rfl,b,(by grind [ec,wV])⟩⟩
    ·cases hi
   ·cases h
  ·cases h
 ·rename_i e E0 he;obtain⟨m1,m2,_⟩:=CM he;split at h
  ·rename_i E l' hx;split at h
   ·rename_i hE;have hE:=eq_of_beq_eq_true hE;subst hE;injection h with h;subst h;cases hw with
    | cons k1 k2=>
      cases k2
      rcases k1 with ⟨c,c',e1,e2,e3,e4⟩ | ⟨_,_,e1,_⟩
      ·injection e1 with e1;subst e1 e2;simp only [cons_append,nil_append]at hi;unfold pH at hi;split at hi
       ·grind
       ·rename_i E0 E' l'' vs0 q1 q2;injection q1 with q1;subst q1;injection q2 with q2 q3;injection q2 with q2;subst q2 q3;split at hi
        ·rename_i hE;have hE:=eq_of_beq_eq_true hE;subst hE;simp only [injEq,Prod.mk.injEq]at hi;obtain⟨rfl,rfl⟩:=hi;refine⟨rfl, .inl (mem_map.2 ⟨e,m1,?_⟩)⟩;grind [DC.toC,Bk,GO,DE.toE]
        ·cases hi
       all_goals grind
      ·cases e1
   ·cases h
  ·cases h
 ·rename_i e E0 he;obtain⟨m1,m2,_⟩:=CM he;split at h
  ·rename_i E n l' hx;split at h
   ·rename_i hE;have hE:=eq_of_beq_eq_true hE;subst hE;injection h with h;subst h;cases hw with
    | cons k1 k2=>
      cases k2 with
      | cons k3 k4=>
        cases k4
        rcases k1 with ⟨c,c',e1,e2,e3,e4⟩ | ⟨_,_,e1,_⟩
        ·rcases k3 with ⟨d,d',f1,f2,f3,f4⟩ | ⟨_,_,f1,_⟩
         ·injection e1 with e1;injection f1 with f1;subst e1 e2 f1 f2;simp only [cons_append,nil_append]at hi;unfold pH at hi;split at hi
          ·grind
          ·grind
          ·rename_i E1 n' E2 l'' vs0 q1 q2;injection q1 with q1;subst q1;injection q2 with q2 q3;injection q2 with q2;injection q3 with q3 q4;injection q3 with q3;subst q2 q3 q4;split at hi
           ·rename_i hE;have hE:=eq_of_beq_eq_true hE;subst hE;simp only [injEq,Prod.mk.injEq]at hi;obtain⟨rfl,rfl⟩:=hi;refine⟨rfl, .inl (mem_map.2 ⟨e,m1,?_⟩)⟩;grind [DC.toC,Bk,GO,DE.toE,Bo,eO]
           ·cases hi
          ·cases hi
         ·cases f1
        ·cases e1
   ·cases h
  ·cases h
 ·cases h
end Go.PL
namespace Go.PL
open Go Go.RowKit
variable {T:Bl}
theorem lG {L:List (DE T)}: ∀ {l:List (Ah×ESp)} {vs vs' us us':List (DV T)} {st d_:Ag T},RC L l=some vs->afF WkV vs vs'->IC l (vs'++us) st=some (d_,us')->(∀ e∈st.so,AaZ L e)->
 us'=us/\ ∀ e∈d_.so,AaZ L e
 | [],vs,vs',us,us',st,d_,h,hw,hi,hs=>by
   simp only [RC,injEq]at h;subst h;cases hw
   simp only [IC,nil_append,injEq,Prod.mk.injEq]at hi;grind
 | (id,p)::r,vs,vs',us,us',st,d_,h,hw,hi,hs=>by
   simp only [RC]at h;split at h
   ·rename_i a b h1 h2;injection h with h;subst h;obtain⟨x,y,rfl,k1,k2⟩:=afF.aer hw;simp only [IC]at hi;split at hi
    ·rename_i v us1 h3 h4;rw [append_assoc]at h3;obtain⟨e,hv⟩:=uK h1 k1 h3 st.nx;subst e;refine lG h2 k2 hi fun e he=>?_;rcases mem_cons.1 he with rfl | he
     all_goals grind
    ·cases hi
   ·cases h
def Hg (ks:List Nat):Tm T->Tm T
 | []=>[]
 | (s,t,v)::r=>match Jv ks s with
   | true=>(s,t,v)::Hg ks r
   | false=>Hg ks r
def Qy:List Ah->Ah->Bool
 | [],_=>false
 | a::l,b=>match Bc a b with
   | true=>true
   | false=>Qy l b
def Qz (ke:List Ah):List (DE T)->List (DE T)
 | []=>[]
 | e::r=>match Qy ke e.id with
   | true=>e::Qz ke r
   | false=>Qz ke r
theorem Mv {ks:List Nat}: ∀ {tm:Tm T} {x:Nat×Nat×DV T},x∈Hg ks tm->x∈tm
 | [],_,h=>h
 | (s,t,v)::r,x,h=>by
   unfold Hg at h;split at h
   ·rcases mem_cons.1 h with rfl | h
    ·simp
    ·simp [Mv h]
   ·simp [Mv h]
theorem OZ {ks:List Nat} (i:Nat): ∀ tm:Tm T,lk (Hg ks tm) i=(match Jv ks i with | true=>lk tm i | false=> .u)
 | []=>by cases Jv ks i<;>rfl
 | (s,t,v)::r=>by
   have ih:=OZ (ks:=ks) i r;unfold Hg;cases hs:Jv ks s with
   | true=>
     simp only [lk];cases hb:Nat.beq s i with
     | true=>
       have:=eq_of_beq_eq_true hb;subst this;rw [hs]
     | false=>exact ih
   | false=>
     simp only;rw [ih];cases hi:Jv ks i with
     | true=>
       simp only [lk];cases hb:Nat.beq s i with
       | true=>
         have:=eq_of_beq_eq_true hb;subst this;rw [hs]at hi;cases hi
       | false=>rfl
     | false=>rfl
theorem QA {b:Ah}: ∀ {l:List Ah},Qy l b=true↔b∈l
 | []=>by simp [Qy]
 | a::l=>by
   unfold Qy;cases h:Bc a b with
   | true=>have:=AQ.1 h;subst this;simp
   | false=>
     have:b ≠ a:=fun e=>by rw [AQ.2 e.symm]at h;cases h
     simp [QA (l:=l),this]
theorem Hh (ke:List Ah): ∀ l:List (DE T),(Qz ke l).Sublist l/\ ∀ e∈Qz ke l,e.id∈ke
 | []=>⟨List.Sublist.slnil,fun _ h=>by cases h⟩
 | e::r=>by
   obtain⟨a,b⟩:=Hh ke r;unfold Qz;split
   ·rename_i h;refine⟨a.cons_cons _,fun x hx=>?_⟩;rcases mem_cons.1 hx with rfl | hx
    all_goals grind [QA]
   grind
def HV.base (sh:HV) (st:Ag T):Ag T:={st with tm:=Hg sh.ks st.tm,so:=Qz sh.ke st.so}
theorem HV.ag4 {H:Az T} (sh:HV) {st:Ag T} (h:AK H st):Nx H st H (sh.base st):=
 ⟨C4.refl _ _,le_refl _,fun s t v hm=>h.tm s t v (Mv hm),h.gh,fun e he=>h.so e ((Hh _ _).1.subset he),List.Sublist.nodup ((Hh _ _).1.map _) h.nd⟩
def HV.inst (sh:HV) (st:Ag T) (vs:List (DV T)):Option (Ag T):=match HW sh.vs vs (sh.base st)with
 | some (s,us)=>match IC sh.es us s with
   | some (s',_)=>some s'
   | none=>none
 | none=>none
theorem HV.afO {H:Az T} {sh:HV} {st s':Ag T} (h:AK H st) {vs:List (DV T)} (hv: ∀ v∈vs,uJ v) (hi:sh.inst st vs=some s'): ∃ H',Nx H st H' s':=by
 unfold HV.inst at hi;split at hi
 ·rename_i s us h1;split at hi
  ·rename_i s2 us2 h2;injection hi with hi;subst hi;obtain⟨⟨H1,a⟩,b,_⟩:=Kr (sh.ag4 h) hv h1;exact(Mu a b h2).1
  ·cases hi
 ·cases hi
def sw (ks:List Nat) (tm tm0:Tm T):Bool:=match ks with
 | []=>true
 | s::r=>match Nat.beq (XT tm s) (XT tm0 s)with
   | true=>sw r tm tm0
   | false=>false
def lH (ke:List Ah) (l l0:List (DE T)):Bool:=match ke with
 | []=>true
 | i::r=>match GP l0 i with
   | none=>lH r l l0
   | some b=>match GP l i with
     | some a=>match Nat.beq a.tag b.tag with
       | true=>lH r l l0
       | false=>false
     | none=>false
def uL:Tm T->Tm T->Bool
 | [],[]=>true
 | (s,t,_)::r,(s',t',_)::r'=>match Nat.beq s s'&&Nat.beq t t' with
   | true=>uL r r'
   | false=>false
 | _,_=>false
def uM:List (Nat×Tm T)->List (Nat×Tm T)->Bool
 | [],[]=>true
 | (m,tm)::r,(m',tm')::r'=>match Nat.beq m m'&&uL tm tm' with
   | true=>uM r r'
   | false=>false
 | _,_=>false
theorem YJ: ∀ {ks:List Nat} {tm tm0:Tm T},sw ks tm tm0=true-> ∀ s,Jv ks s=true->XT tm s=XT tm0 s
 | [],_,_,_,s,hs=>by simp [Jv]at hs
 | a::r,tm,tm0,h,s,hs=>by
   unfold sw at h;split at h
   ·rename_i hb;rw [Fg]at hs;rcases mem_cons.1 hs with rfl | hs
    ·exact eq_of_beq_eq_true hb
    ·exact YJ h s (Fg.2 hs)
   ·cases h
theorem QB: ∀ {ke:List Ah} {l l0:List (DE T)},lH ke l l0=true-> ∀ i∈ke, ∀ b,GP l0 i=some b-> ∃ a,GP l i=some a/\a.tag=b.tag
 | [],_,_,_,i,hi=>by cases hi
 | k::r,l,l0,h,i,hi=>by
   unfold lH at h;intro b hb;rcases mem_cons.1 hi with rfl | hi
   ·rw [hb]at h;simp only at h;split at h
    ·rename_i a h1;split at h
     ·rename_i hq;exact⟨a,h1,eq_of_beq_eq_true hq⟩
     ·cases h
    ·cases h
   ·split at h
    ·exact QB h i hi b hb
    ·split at h
     ·split at h
      ·exact QB h i hi b hb
      ·cases h
     ·cases h
theorem eP {H H':Az T} {n n':Nat} (he:C4 n H H'): ∀ {tm tm':Tm T},uL tm' tm=true->Qm H n tm->Qm H' n' tm'->tm'=tm
 | [],[],_,_,_=>rfl
 | [],_::_,h,_,_=>by simp [uL]at h
 | _::_,[],h,_,_=>by simp [uL]at h
 | (s,t,v)::r,(s',t',v')::r',h,a,b=>by
   unfold uL at h;split at h
   ·rename_i hb;simp only [and_eq_true,beq_eq]at hb;obtain⟨rfl,rfl⟩:=hb;obtain⟨a1,a2,_⟩:=a s' t' v (by simp);obtain⟨_,b2,_⟩:=b s' t' v' (by simp);have:v'=v:=by rw [<-a2, <-b2,(he t' a1).1]
    subst this;rw [eP he h (fun s t v hm=>a s t v (by simp [hm])) (fun s t v hm=>b s t v (by simp [hm]))]
   ·cases h
theorem eQ {H H':Az T} {n n':Nat} (he:C4 n H H'): ∀ {l l':List (Nat×Tm T)},uM l' l=true->(∀ f∈l,Qm H n f.2)->(∀ f∈l',Qm H' n' f.2)->l'=l
 | [],[],_,_,_=>rfl
 | [],_::_,h,_,_=>by simp [uM]at h
 | _::_,[],h,_,_=>by simp [uM]at h
 | (m,tm)::r,(m',tm')::r',h,a,b=>by
   unfold uM at h;split at h
   ·rename_i hb;simp only [and_eq_true,beq_eq]at hb;obtain⟨rfl,hb⟩:=hb;rw [eP he hb (by simp_all) (b (m',tm') (by simp)),eQ he h (by grind) (fun f hm=>b f (by simp [hm]))]
   ·cases h
def FF:List Ah->Ag T->Ag T
 | [],st=>st
 | i::r,st=>match st.frz i with
   | some s=>FF r s
   | none=>FF r st
theorem F2 {H0:Az T} {st0:Ag T}: ∀ {l:List Ah} {st:Ag T} {H:Az T},Nx H0 st0 H st->(∃ H',Nx H0 st0 H' (FF l st))/\Wk st.toSt (FF l st).toSt
 | [],st,H,h=>⟨⟨H,h⟩,Wk.less (CH.refl _)⟩
 | i::r,st,H,h=>by
   unfold FF;split
   ·rename_i s hs;obtain⟨⟨H1,a⟩,b,_⟩:=Ag.ag2 h.ok hs;obtain⟨c,d⟩:=F2 (l:=r) (h.trans a);grind [Wk.trans,Wk.frz]
   ·exact F2 (l:=r) h
def Ac3:List (Ah×ESp)->List Ah
 | []=>[]
 | (i,_)::r=>i::Ac3 r
def xz (tm:Tm T):List (Nat×VSp)->List Ah
 | []=>[]
 | (s,_)::r=>su (lk tm s)++xz tm r
def ig (l:List (DE T)):List (Ah×ESp)->List Ah
 | []=>[]
 | (i,_)::r=>match GP l i with
   | some e=>match e.x with
     | .box cs=>eJ cs++ig l r
     | _=>ig l r
   | none=>ig l r
def xA (l:List Ah):List Ah->List Ah
 | []=>[]
 | i::r=>match Qy l i with
   | true=>xA l r
   | false=>i::xA l r
def HV.frz (sh:HV) (st:Ag T):List Ah:=xA (sh.ke++Ac3 sh.es) (xz st.tm sh.vs++ig st.so sh.es)
def HV.awi (sh:HV) (st0 s:Ag T):Option (RT T sh.ts):=
 match sw sh.ks s.tm st0.tm&&(lH sh.ke s.so st0.so&&(uM s.gh st0.gh&&(Nat.beq s.m st0.m&&Bc s.pre st0.pre)))with
 | true=>match N1 s.tm sh.vs,RC s.so sh.es with
   | some a,some b=>ic sh.ts (a++b)
   | _,_=>none
 | false=>none
def HV.gen (sh:HV) (st0 d_:Ag T):Option (RT T sh.ts):=sh.awi st0 (FF (sh.frz d_) d_)
theorem ii {l:List (DE T)} (hn:(l.map DE.id).Nodup): ∀ {e:DE T},e∈l->GP l e.id=some e:=by
 induction l with
 | nil=>grind
 | cons a r ih=>
   intro e h;rw [map_cons]at hn;obtain⟨n1,n2⟩:=nodup_cons.1 hn;unfold GP;split
   ·rename_i hb;have hb:=AQ.1 hb;grind
   ·rename_i hb;rcases mem_cons.1 h with rfl | h
    ·rw [AQ.2 rfl]at hb;cases hb
    grind
theorem HV.atr {H H':Az T} {sh:HV} {st0 s s1:Ag T} (h0:AK H st0) (hN:Nx H st0 H' s) {x:RT T sh.ts} (hg:sh.awi st0 s=some x) (hi:sh.inst st0 (Cw sh.ts x)=some s1):Wkn s.toSt s1.toSt:=by
 unfold HV.awi at hg;split at hg
 ·rename_i hb;simp only [and_eq_true,beq_eq]at hb;obtain⟨k1,k2,k3,k4,k5⟩:=hb;split at hg
  ·rename_i a b ga gb;have hw:=Vx hg;obtain⟨va,vb,hv,wa,wb⟩:=afF.aer hw;unfold HV.inst at hi;split at hi
   ·rename_i s2 us h1;split at hi
    ·rename_i s3 us2 h2;injection hi with hi;subst hi;rw [hv]at h1;have hpv:=Eq sh.ts x;rw [hv]at hpv;obtain⟨⟨H1,n1⟩,n2,n3,n4,n5,n6⟩:=Kr (sh.ag4 h0) hpv h1;have auz: ∀ i,YF (lk s.tm i).toV (lk (sh.base st0).tm i).toV :=by
      intro i;show YF (lk s.tm i).toV (lk (Hg sh.ks st0.tm) i).toV;rw [OZ];cases hm:Jv sh.ks i with
      | false=>simp only [DV.toV];intro w G u _;simp only [Ad]
      | true=>
        simp only;have ht:=YJ k1 i hm;have:lk s.tm i=lk st0.tm i:=by
         rcases Ro st0.tm i with ⟨q1,q2⟩ | ⟨t,q1,q2⟩
         ·grind [Ro]
         ·obtain⟨p1,p2⟩:=XU h0.tm q2;obtain⟨p3,p4⟩:=XU hN.ok.tm (ht.trans q2);rw [<-p2, <-p4,(hN.ext t p1).1]
        grind [YF.refl]
     obtain⟨e1,hsl⟩:=eN (us:=vb) ga wa h1 auz;subst e1;have hpb: ∀ v∈us,uJ v:=n2;obtain⟨⟨H2,m1⟩,m2,m3,m4,m5⟩:=Mu n1 hpb h2;have aDd: ∀ e∈s2.so,AaZ s.so e:=by
      intro e he;rw [n3]at he;have he:e∈Qz sh.ke st0.so:=he;have hid:=(Hh sh.ke st0.so).2 e he;have amT:=(Hh sh.ke st0.so).1.subset he;obtain⟨a',q1,q3⟩:=QB k2 e.id hid e (ii h0.nd amT);obtain⟨t1,t2,_⟩:=h0.so e amT;obtain⟨u1,u2,_⟩:=CM q1;obtain⟨v1,v2,_⟩:=hN.ok.so a' u1;have:a'=e:=by rw [<-t2, <-v2,q3,(hN.ext e.tag t1).2]
      subst this;exact .inl (mem_map.2 ⟨a',u1,rfl⟩)
     have h2':IC sh.es (us++[]) s2=some (s3,us2):=by grind
     obtain⟨_,hen⟩:=lG gb wb h2' aDd;have hgh:=eQ hN.ext k3 h0.gh hN.ok.gh;exact {
      len:=by simp only [Ag.toSt,AI,List.length_map,List.length_range];rw [m5,n6,k4];rfl
      tm:=fun i=>by show YF ((AI s.m s.tm).getD i .undef) ((AI s3.m s3.tm).getD i .undef);rw [LD,LD,m5,n6,m2];have:(sh.base st0).m =s.m:=k4.symm;grind [YF.refl]
      so:=fun e' he'=>by
       obtain⟨d,hd,rfl⟩:=mem_map.1 he';rcases hen d hd with q | ⟨cs,cs',q1,q2,q3,q4⟩
       ·exact .inl q
       ·exact .inr ⟨cs,cs',by rw [DE.toE_id];exact q1,by grind,q3,q4⟩
      nd:=by
       have:=m1.ok.nd;show ((s3.so.map DE.toE).map AB.id).Nodup;rw [map_map];have e:(AB.id ∘ DE.toE:DE T->Ah)=DE.id:=by grind [DE.toE_id]
       grind
      gh:=by simp only [Ag.toSt];rw [m3,n4,hgh];rfl
      pre:=by simp only [Ag.toSt];rw [m4,n5,AQ.1 k5];rfl}
    ·cases hi
   ·cases hi
  ·cases hg
 ·cases hg
theorem HV.ae6 {H H':Az T} {sh:HV} {st0 d_ s1:Ag T} (h0:AK H st0) (hN:Nx H st0 H' d_) {x:RT T sh.ts} (hg:sh.gen st0 d_=some x) (hi:sh.inst st0 (Cw sh.ts x)=some s1):Wk d_.toSt s1.toSt:=by obtain⟨⟨H1,a⟩,b⟩:=F2 (l:=sh.frz d_) hN;exact b.trans (Wk.wkn (HV.atr h0 a hg hi))
end Go.PL
namespace Go.PL
open Go Go.RowKit
variable {T:Bl}
def Gl:Nat->List (DV T)->Ag T->Ag T
 | _,[],st=>st
 | i,v::vs,st=>Gl (i+1) vs (st.put (some i) v)
theorem QC {H:Az T} {st0:Ag T}: ∀ {vs:List (DV T)} {i:Nat} {st:Ag T} {H1:Az T},Nx H st0 H1 st->CL H st0.nx vs-> ∃ H',Nx H st0 H' (Gl i vs st)
 | [],_,st,H1,h,_=>⟨H1,h⟩
 | v::vs,i,st,H1,h,hv=>by simp only [CL]at hv;obtain⟨H2,h2⟩:=Ag.Th h (some i) (DV.ads h.ext h.le hv.1);show ∃ H',Nx H st0 H' (Gl (i+1) vs (st.put (some i) v));exact QC h2 hv.2
theorem Mw: ∀ (vs:List (DV T)) (i:Nat) (st:Ag T),(Gl i vs st).so =st.so/\(Gl i vs st).gh =st.gh/\(Gl i vs st).pre =st.pre/\(Gl i vs st).m =st.m
 | [],_,_=>⟨rfl,rfl,rfl,rfl⟩
 | v::vs,i,st=>Mw vs (i+1) (st.put (some i) v)
theorem QD: ∀ (vs:List (DV T)) (i:Nat) (st:Ag T) (j:Nat),lk (Gl i vs st).tm j=if i<=j/\j<i+vs.length then vs.getD (j - i) .u else lk st.tm j
 | [],i,st,j=>by rw [if_neg (by simp)];rfl
 | v::vs,i,st,j=>by rw [Gl,QD vs (i+1) _ j,xy];grind
def Ag.enter (st:Ag T) (k:Nat) (args:List (DV T)) (n:Nat):Ag T:=Gl 0 args ⟨n,[],st.so,(st.m,st.tm)::st.gh,k::st.pre,st.nx⟩
theorem xB {H:Az T} {st:Ag T} (h:AK H st) (k:Nat) {args:List (DV T)} (n:Nat) (ha:CL H st.nx args): ∃ H',Nx H st H' (st.enter k args n):=by
 refine QC (H1:=H) (st:=⟨n,[],st.so,(st.m,st.tm)::st.gh,k::st.pre,st.nx⟩) ⟨C4.refl _ _,le_refl _,⟨fun _ _ _ hm=>by simp at hm,fun f hf=>?_,h.so,h.nd⟩⟩ ha;rcases mem_cons.1 hf with rfl | hf
 ·exact h.tm
 ·exact h.gh f hf
theorem YK {m:Nat} {tm:Tm T} {vs:List (DV T)} (hl:vs.length<=m) (h: ∀ j,lk tm j=if j<vs.length then vs.getD j .u else .u):AI m tm=Be vs++List.replicate (m - (Be vs).length) .undef :=by
 rw [HQ];apply List.ext_getElem?;intro i;unfold AI;rw [List.getElem?_map];by_cases hi:i<vs.length
 ·rw [List.getElem?_range (by omega),List.getElem?_append_left (by rw [HQ];exact hi)];simp_all [NM]
 ·rw [getElem?_append_right (by rw [HQ];omega),HQ,List.getElem?_replicate];by_cases hm:i<m
  all_goals simp_all [DV.toV]
theorem pI {st:Ag T} {k:Nat} {args:List (DV T)} {n:Nat} (hl:args.length<=n):(st.enter k args n).toSt =st.toSt.enter k (Be args) n:=by obtain⟨a,b,c,d⟩:=Mw args 0 (⟨n,[],st.so,(st.m,st.tm)::st.gh,k::st.pre,st.nx⟩:Ag T);unfold Ag.enter;simp only [Ag.toSt,a,b,c,d,St.enter,flatMap_cons];rw [YK hl];intro j;rw [QD];simp only [Nat.zero_le,true_and,zero_add,Nat.sub_zero];rfl
def Ag.back (st st0:Ag T) (d:Option Nat) (v:DV T):Option (Ag T):=match st.gh with
 | (m',tm')::g=>match Nat.beq m' st0.m with
   | true=>some (({st with m:=m',tm:=tm',gh:=g,pre:=st0.pre}:Ag T).put d v)
   | false=>none
 | []=>none
theorem Bt (m:Nat) (tm:Tm T):(AI m tm).length =m:=by simp [AI]
theorem uN {H H1:Az T} {st st0 b:Ag T} {d:Option Nat} {v:DV T} (hN:Nx H st0 H1 st) (hv:v.ok H1 st.nx) (h:st.back st0 d v=some b):(∃ H',Nx H st0 H' b)/\b.toSt=st.toSt.back st0.m st0.pre d v.toV/\b.pre=st0.pre:=by
 unfold Ag.back at h;split at h
 ·rename_i m' tm' g hg;split at h
  ·rename_i hm;have hm:=eq_of_beq_eq_true hm;injection h with h;subst h;have hgh:=hN.ok.gh;rw [hg]at hgh;have n1:Nx H st0 H1 ({st with m:=m',tm:=tm',gh:=g,pre:=st0.pre}:Ag T):=⟨hN.ext,hN.le,(by simp_all),(by grind),hN.ok.so,hN.ok.nd⟩;refine⟨Ag.Th n1 d hv,?_,by rw [AW]⟩;grind [Ag.r_,Ag.toSt,St.back,Bt]
  ·cases h
 ·cases h
def Vy (P:Program) (st:Ag T):ResultVar->M (DV T)
 | .tmp t=> .ret (st.get t)
 | .cell t Ty=>k7 P Ty [] st (st.get t)
def pJ (P:Program) (st:Ag T):List ResultVar->M (List (DV T))
 | []=> .ret []
 | x::xs=> .Z_ (Vy P st x) fun v=> .Z_ (pJ P st xs) fun vs=> .ret (v::vs)
def xC (P:Program) (st:Ag T):List ResultVar->M (DV T)
 | [x]=>Vy P st x
 | xs=> .Z_ (pJ P st xs) fun vs=> .ret (.tup vs)
section
variable {H:Az T} {P:Program} {st:Ag T}
theorem JI (hw:AK H st) (x:ResultVar):Yl (Vy P st x) (fun v=>v.ok H st.nx/\(Pq P st.toSt x).1/\(Pq P st.toSt x).2=v.toV):=by
 cases x with
 | tmp t=>exact Yl.ret ⟨Ag.ahV hw t,trivial,by simp only [Pq];exact st.abF t⟩
 | cell t Ty=>
   refine(X5 (key:=[]) hw (fun _=>Ag.ahV hw t)).mono fun v hv=>?_;obtain⟨a,b,c⟩:=hv rfl;simp only [Pq,st.abF];grind
theorem eR (hw:AK H st): ∀ xs:List ResultVar,Yl (pJ P st xs) (fun vs=>CL H st.nx vs/\(Cy P st.toSt xs).1/\(Cy P st.toSt xs).2=Be vs)
 | []=>Yl.ret (by simp_all [CL,Cy,Be])
 | x::xs=>Yl.Z_ (JI hw x) fun v hv=>Yl.Z_ (eR hw xs) (by simp_all [Yl.ret,CL,Cy,Be])
theorem Aa0 (hw:AK H st) (xs:List ResultVar):Yl (xC P st xs) (fun v=>v.ok H st.nx/\(Ct P st.toSt xs).1/\(Ct P st.toSt xs).2=v.toV):=by
 unfold xC;split
 ·rename_i x;exact JI hw x
 ·rename_i hne;refine Yl.Z_ (eR hw _) fun vs hvs=>Yl.ret ?_;obtain⟨a,b,c⟩:=hvs;have:Ct P st.toSt xs=((Cy P st.toSt xs).1, .tup (Cy P st.toSt xs).2):=by unfold Ct;grind
  simp_all [DV.ok,DV.toV]
end
end Go.PL
namespace Go.PL
open Go Go.RowKit
variable {T:Bl}
mutual
def DC.q_ (p:Ah->Bool):DC T->Bool
 | .c x=>x.q_ p
 | .rp i _ _ _=>p i
 | .ap i _ _ _ _ _=>p i
 | .bs i _ _ _=>p i
 | .clo _ _ cs=>QE p cs
 | .k _ _=>false
 | .ip .. =>false
def QE (p:Ah->Bool):List (DC T)->Bool
 | []=>false
 | c::cs=>match c.q_ p with
   | true=>true
   | false=>QE p cs
end
mutual
theorem DC.al9 (p:Ah->Bool): ∀ c:DC T,c.q_ p=c.toC.q_ p
 | .c x=>by simp only [DC.q_,DC.toC]
 | .rp .. =>by simp only [DC.q_,DC.toC,C.q_]
 | .ap .. =>by simp only [DC.q_,DC.toC,C.q_]
 | .bs .. =>by simp only [DC.q_,DC.toC,C.q_]
 | .clo true _ cs=>by simp only [DC.q_,DC.toC,C.q_,F3 p cs]
 | .clo false _ cs=>by simp only [DC.q_,DC.toC,C.q_,F3 p cs]
 | .k kd x=>by cases kd<;>simp only [DC.q_,DC.toC,Bk,C.q_]
 | .ip .. =>by simp only [DC.q_,DC.toC,C.q_]
theorem F3 (p:Ah->Bool): ∀ cs:List (DC T),QE p cs=CD p (Ax cs)
 | []=>by simp only [QE,Ax,CD]
 | c::cs=>by simp only [QE,Ax,CD,DC.al9 p c,F3 p cs];cases c.toC.q_ p<;>rfl
end
mutual
def DV.q_ (p:Ah->Bool):DV T->Bool
 | .c x=>x.q_ p
 | .agg cs=>QE p cs
 | .tup vs=>ij p vs
 | .g _ v=>v.q_ p
 | .u =>false
def ij (p:Ah->Bool):List (DV T)->Bool
 | []=>false
 | v::vs=>match v.q_ p with
   | true=>true
   | false=>ij p vs
end
mutual
theorem DV.agQ (p:Ah->Bool): ∀ v:DV T,v.q_ p=false->v.toV.q_ p=false
 | .c x,h=>by grind [DV.q_,DV.toV,V.q_,DC.al9]
 | .agg cs,h=>by grind [DV.q_,DV.toV,V.q_,F3]
 | .tup vs,h=>by simp only [DV.q_]at h;simp only [DV.toV,V.q_];exact eT p vs h
 | .g k v,h=>by simp only [DV.q_]at h;simp only [DV.toV,V.q_,DV.agQ p v h]
 | .u,_=>by simp only [DV.toV,V.q_]
theorem eT (p:Ah->Bool): ∀ vs:List (DV T),ij p vs=false->NK p (Be vs)=false
 | [],_=>by simp only [Be,NK]
 | v::vs,h=>by
   simp only [ij]at h;split at h
   ·cases h
   ·rename_i hv;simp only [Be,NK,DV.agQ p v hv,eT p vs h,Bool.or_self]
end
def Mx (p:Ah->Bool) (c:DC T):DC T:=match c.q_ p with
 | true=> .c .any
 | false=>c
def DX.q_ (p:Ah->Bool):DX T->Bool
 | .box cs=>QE p cs
 | .row _ _=>false
 | .deep .. =>false
def O0 (p:Ah->Bool):DX T->DX T
 | .box cs=> .box (cs.map (Mx p))
 | x=>x
theorem YL {p:Ah->Bool} {c:DC T} (h:c.ok):(Mx p c).ok :=by grind [Mx,DC.ok]
theorem N2 (p:Ah->Bool) (c:DC T):(Mx p c).toC =Cj p c.toC:=by grind [Mx,Cj,DC.al9,DC.toC]
theorem O1 {p:Ah->Bool} {v:V} (h:v.q_ p=false):Bv p v=v:=by simp_all [Bv]
theorem T0 {p:Ah->Bool}: ∀ {l:List C},CD p l=false->l.map (Cj p)=l
 | [],_=>rfl
 | c::l,h=>by simp only [CD,Bool.or_eq_false_iff]at h;rw [map_cons,T0 h.2,Cj,if_neg (by simp [h.1])]
theorem lI {p:Ah->Bool} {e:DE T} (t:Nat):(⟨e.id,t,O0 p e.x⟩:DE T).toE =AB.j_ p e.toE:=by
 unfold DE.toE;cases hxx:e.x with
 | box cs=>
   simp only [O0,AB.j_,Cz,map_map,AB.mk.injEq,and_true,true_and];grind [map_congr_left,N2]
 | row E l=>rfl
 | deep E n l h=>rfl
theorem uO {p:Ah->Bool} {e:DE T} (h:e.x.q_ p=false):AB.j_ p e.toE=e.toE:=by grind [DE.toE,DX.q_,F3,AB.j_,T0]
theorem eU {p:Ah->Bool} {m n:Nat} {tm:Tm T}:I3 ((AI m tm).map (Bv p)) (AI m (Pt (DV.q_ p) (fun _=> .u) n tm)):=by unfold AI;rw [map_map];refine I3.map fun i _=>?_;simp only [Function.comp,Mq (p:=DV.q_ p) (f:=fun _=>DV.u) (by simp [DV.q_])];grind [DV.toV,O1,DV.agQ]
theorem xD {p:Ah->Bool}: ∀ (l:List (Nat×Tm T)) (n:Nat),I3 ((l.flatMap fun f=>AI f.1 f.2).map (Bv p)) ((Qq (DV.q_ p) (fun _=> .u) n l).flatMap fun f=>AI f.1 f.2)
 | [],_=>trivial
 | (m,tm)::r,n=>by simp only [Qq,flatMap_cons,map_append];exact eU.append (xD r _)
def Ag.Ti (st:Ag T) (p:Ah->Bool):Ag T:=let s:=st.aet (DV.q_ p) (fun _=> .u) (DX.q_ p) (O0 p);{s with so:=s.so.filter fun e=> !(p e.id)}
theorem lJ (p:Ah->Bool) (l:List (DE T)):(l.filter fun e=> !(p e.id)).map DE.toE=(l.map DE.toE).filter fun e=> !(p e.id):=by
 induction l with
 | nil=>rfl
 | cons e l ih=>
   simp only [List.filter_cons,map_cons,DE.toE_id];grind
theorem ik (p:Ah->Bool) (l:List AB):(l.map (AB.j_ p)).filter (fun e=> !(p e.id))=(l.filter (fun e=> !(p e.id))).map (AB.j_ p):=by induction l<;>grind [AB.K_]
theorem Ag.acJ {H:Az T} {st:Ag T} (h:AK H st) (p:Ah->Bool):(∃ H',Nx H st H' (st.Ti p))/\I3 (st.toSt.tm.map (Bv p)) (st.Ti p).toSt.tm /\I3 (st.toSt.gh.map (Bv p)) (st.Ti p).toSt.gh /\
 (st.Ti p).toSt.so =(st.toSt.so.filter fun e=> !(p e.id)).map (AB.j_ p)/\(st.Ti p).pre =st.pre/\ ∀ e∈(st.Ti p).so,p e.id=false:=by
 obtain⟨H',hN⟩:=Ag.aeP (p:=DV.q_ p) (f:=fun _=> .u) (q:=DX.q_ p) (g:=O0 p) h (fun _=>by simp only [DV.ok]) (fun {x} hx=>by
  cases x with
  | box cs=>
    simp only [O0,DX.ok]at hx ⊢;refine C6.2 fun c hc=>?_;obtain⟨d,h1,rfl⟩:=mem_map.1 hc;grind [YL,C6]
  | row E l=>exact hx
  | deep E n l h=>exact hx)
 refine⟨⟨H',hN.ext,hN.le,Ej hN.ok _⟩,eU,xD _ _,?_,rfl,fun e he=>?_⟩
 ·show ((Qr (DX.q_ p) (O0 p) (st.nx+st.tm.length+M7 st.gh) st.so).filter fun e=> !(p e.id)).map DE.toE=_;rw [lJ,NR (F:=AB.j_ p) _ (fun e _=>⟨fun _ t=>lI t,fun hm=>uO hm⟩)];exact ik p _
 ·have:=(mem_filter.1 he).2;grind
def Bm:List (Ah×DX T)->Ag T->Ag T
 | [],st=>st
 | (i,x)::r,st=>let s:=Bm r st;{s with so:=⟨i,s.nx,x⟩::s.so,nx:=s.nx+1}
def bU (p:Ah×DX T):AB:=(⟨p.1,0,p.2⟩:DE T).toE
theorem sx (i:Ah) (t:Nat) (x:DX T):(⟨i,t,x⟩:DE T).toE =bU (i,x):=by grind [bU,DE.toE]
theorem Er: ∀ (l:List (Ah×DX T)) (st:Ag T),(Bm l st).tm =st.tm/\(Bm l st).gh =st.gh/\(Bm l st).pre =st.pre/\(Bm l st).m =st.m/\(Bm l st).toSt.so =l.map bU++st.toSt.so/\(Bm l st).so.map DE.id=l.map (·.1)++st.so.map DE.id
 | [],st=>⟨rfl,rfl,rfl,rfl,rfl,rfl⟩
 | (i,x)::r,st=>by obtain⟨a,b,c,d,e,f⟩:=Er r st;simp_all [Bm,Ag.toSt,sx]
theorem I6 {H:Az T} {st0 st:Ag T}: ∀ {l:List (Ah×DX T)} {H1:Az T},Nx H st0 H1 st->(∀ p∈l,p.2.ok)->(l.map (·.1)).Nodup ->(∀ p∈l, ∀ e∈st.so,e.id ≠ p.1)-> ∃ H',Nx H st0 H' (Bm l st)
 | [],H1,hn,_,_,_=>⟨H1,hn⟩
 | (i,x)::r,H1,hn,hx,hd,hf=>by
   simp only [map_cons,nodup_cons]at hd;obtain⟨H2,h2⟩:=I6 hn (by grind) hd.2 (by grind);have he:=C4.aar H2 (Bm r st).nx ⟨i,(Bm r st).nx,x⟩;refine⟨H2.aar (Bm r st).nx ⟨i,(Bm r st).nx,x⟩,h2.trans ⟨he,le_succ _,?_,?_,?_,?_⟩⟩
   ·exact BT he (le_succ _) h2.ok.tm
   ·exact fun f hm=>BT he (le_succ _) (h2.ok.gh f hm)
   ·intro e hm;rcases mem_cons.1 hm with rfl | hm
    ·exact⟨Nat.lt_succ_self _,by simp [Az.aar],hx (i,x) (by simp)⟩
    ·exact Fj he (le_succ _) h2.ok.so e hm
   ·show (i::(Bm r st).so.map DE.id).Nodup;refine nodup_cons.2 ⟨fun hm=>?_,h2.ok.nd⟩;rw [(Er r st).2.2.2.2.2]at hm;rcases mem_append.1 hm with hm | hm
    ·grind
    ·obtain⟨e,h3,h4⟩:=mem_map.1 hm;simp_all
def Aa1 (m:Nat) (id:Ah):(k:Kd)->OW T.den k->List (Ah×DX T)
 | .u_ E,l=>match m with
   | 1=>[(id, .row E l)]
   | 2=>[(1000003::id, .deep E (List.length l:Nat) l none)]
   | _=>[]
 | _,_=>[]
def pK:List Nat->Nat->Ah->(ks:List Kd)->DK T.den ks->List (Ah×DX T)
 | m::ms,i,Td,k::ks,x=>Aa1 m (i::Td) k x.1++pK ms (i+1) Td ks x.2
 | _,_,_,_,_=>[]
def sy:List (List Nat)->Nat->Ah->(ts:List VT)->RT T ts->List (Ah×DX T)
 | m::_,p,Td,[t],x=>pK m 0 (p::Td) (Fa T t) (NZ t x)
 | m::ms,p,Td,t::u::ts,x=>pK m 0 (p::Td) (Fa T t) (NZ t x.1)++sy ms (p+1) Td (u::ts) x.2
 | _,_,_,_,_=>[]
def uP (m:Nat) (id:Ah) (k:Kd) (x:OW T.den k):DC T:=match Pv m k with
 | 0=> .k k x
 | _=>match m with
   | 2=> .c (.n_ (1000003::id))
   | _=> .c (.n_ id)
def T1:List Nat->Nat->Ah->(ks:List Kd)->DK T.den ks->List (DC T)
 | m::ms,i,Td,k::ks,x=>uP m (i::Td) k x.1::T1 ms (i+1) Td ks x.2
 | [],i,Td,k::ks,x=> .k k x.1::T1 [] i Td ks x.2
 | _,_,_,[],_=>[]
def bV (m:List Nat) (Td:Ah):(t:VT)->En T t->DV T
 | .k kd,x=> .c (uP (m.headD 0) (0::Td) kd x)
 | .s E,x=> .agg (T1 m 0 Td (T.ks E) (T.un E x))
 | .f g,_=> .c (.c (.fn g))
def Nk:List (List Nat)->Nat->Ah->(ts:List VT)->RT T ts->List (DV T)
 | m::_,p,Td,[t],x=>[bV m (p::Td) t x]
 | [],p,Td,[t],x=>[bV [] (p::Td) t x]
 | m::ms,p,Td,t::u::ts,x=>bV m (p::Td) t x.1::Nk ms (p+1) Td (u::ts) x.2
 | [],p,Td,t::u::ts,x=>bV [] (p::Td) t x.1::Nk [] (p+1) Td (u::ts) x.2
 | _,_,_,[],_=>[]
def dvR (ow:List (List Nat)) (Td:Ah) (ts:List VT) (x:RT T ts):DV T:=match Nk ow 0 Td ts x with
 | [v]=>v
 | vs=> .tup vs
theorem LN (m:Nat) (id:Ah) (k:Kd) (x:OW T.den k):(JG m k x).length =(Yz m id k).length /\(Yz m id k).length =Pv m k:=by
 cases k with
 | u_ E=>
   match m with
   | 0=>exact⟨rfl,rfl⟩
   | 1=>exact⟨rfl,rfl⟩
   | 2=>exact⟨rfl,rfl⟩
   | _+3=>exact⟨rfl,rfl⟩
 | _=>exact⟨rfl,rfl⟩
theorem ID: ∀ {a b:List OE} {i j:List Ah},a.length=i.length->CN (a++b) (i++j)=CN a i++CN b j
 | [],_,[],_,_=>rfl
 | [],_,_::_,_,h=>by simp at h
 | _::_,_,[],_,h=>by simp at h
 | o::a,b,x::i,j,h=>by simp only [cons_append,CN,ID (a:=a) (i:=i) (by simpa using h)]
theorem uQ (m:Nat) (id:Ah) (k:Kd) (x:OW T.den k):(Aa1 m id k x).map bU=CN (JG m k x) (Yz m id k)/\(Aa1 m id k x).map (·.1)=Yz m id k/\ ∀ p∈Aa1 m id k x,p.2.ok:=by
 cases k with
 | u_ E=>
   match m with
   | 0=>exact⟨rfl,rfl,fun p hp=>by cases hp⟩
   | 1=>exact⟨rfl,rfl,fun p hp=>by rcases mem_singleton.1 hp with rfl;trivial⟩
   | 2=>exact⟨rfl,rfl,fun p hp=>by rcases mem_singleton.1 hp with rfl;trivial⟩
   | _+3=>exact⟨rfl,rfl,fun p hp=>by cases hp⟩
 | _=>exact⟨rfl,rfl,fun p hp=>by cases hp⟩
theorem My: ∀ (ms:List Nat) (i:Nat) (Td:Ah) (ks:List Kd) (x:DK T.den ks),(Cm ms ks x).length =(LI ms i Td ks).length /\(LI ms i Td ks).length =Fl ms ks
 | [],_,_,_,_=>⟨rfl,rfl⟩
 | _::_,_,_,[],_=>⟨rfl,rfl⟩
 | m::ms,i,Td,k::ks,x=>by obtain⟨a,b⟩:=My ms (i+1) Td ks x.2;obtain⟨c,d⟩:=LN m (i::Td) k x.1;simp_all [Cm,LI,Fl]
theorem T3: ∀ (ms:List Nat) (i:Nat) (Td:Ah) (ks:List Kd) (x:DK T.den ks),(pK ms i Td ks x).map bU=CN (Cm ms ks x) (LI ms i Td ks)/\(pK ms i Td ks x).map (·.1)=LI ms i Td ks/\ ∀ p∈pK ms i Td ks x,p.2.ok
 | [],_,_,_,_=>⟨rfl,rfl,fun p hp=>by cases hp⟩
 | _::_,_,_,[],_=>⟨rfl,rfl,fun p hp=>by cases hp⟩
 | m::ms,i,Td,k::ks,x=>by obtain⟨a,b,c⟩:=T3 ms (i+1) Td ks x.2;grind [uQ,pK,Cm,LI,ID,LN]
theorem lK: ∀ (ow:List (List Nat)) (p:Nat) (Td:Ah) (ts:List VT) (x:RT T ts),(sy ow p Td ts x).map bU=CN (Dq ow ts x) (YA T ow p Td ts)/\(sy ow p Td ts x).map (·.1)=YA T ow p Td ts/\ ∀ q∈sy ow p Td ts x,q.2.ok
 | [],_,_,[],_=>⟨rfl,rfl,fun q hq=>by cases hq⟩
 | [],_,_,[_],_=>⟨rfl,rfl,fun q hq=>by cases hq⟩
 | [],_,_,_::_::_,_=>⟨rfl,rfl,fun q hq=>by cases hq⟩
 | _::_,_,_,[],_=>⟨rfl,rfl,fun q hq=>by cases hq⟩
 | m::ms,p,Td,[t],x=>by
   obtain⟨a,b,c⟩:=T3 m 0 (p::Td) (Fa T t) (NZ t x);have e:YA T (m::ms) p Td [t]=LI m 0 (p::Td) (Fa T t):=by cases ms<;>simp [YA]
   rw [e];exact⟨a,b,c⟩
 | m::ms,p,Td,t::u::ts,x=>by
   obtain⟨a,b,c⟩:=T3 m 0 (p::Td) (Fa T t) (NZ t x.1);obtain⟨a',b',c'⟩:=lK ms (p+1) Td (u::ts) x.2;refine⟨?_,?_,fun q hq=>?_⟩
   ·grind [sy,Dq,YA,ID,My]
   all_goals grind [sy,YA]
theorem xE {pre:List Ah} {n:Ah} {post:List Ah}:(pre++([n]++post)).getD pre.length []=n:=by grind
theorem T4 (m:Nat) (id:Ah) (k:Kd) (x:OW T.den k) (pre post:List Ah):(uP m id k x).toC =(PH m pre.length k x).toC (pre++(Yz m id k++post)):=by unfold uP PH Yz;grind [PC.toC,DC.toC]
theorem T5: ∀ (ms:List Nat) (i:Nat) (Td:Ah) (ks:List Kd) (x:DK T.den ks) (pre post:List Ah),Ax (T1 ms i Td ks x)=(Fk ms pre.length ks x).map (PC.toC (pre++(LI ms i Td ks++post)))
 | [],_,_,[],_,_,_=>by simp [T1,Fk,Ax]
 | _::_,_,_,[],_,_,_=>by simp [T1,Fk,Ax]
 | [],i,Td,k::ks,x,pre,post=>by have:=T5 [] i Td ks x.2 pre post;simp only [T1,Fk,Ax,map_cons,PC.toC,DC.toC,List.cons.injEq,true_and];exact this
 | m::ms,i,Td,k::ks,x,pre,post=>by have h1:=T4 m (i::Td) k x.1 pre (LI ms (i+1) Td ks++post);have h2:=T5 ms (i+1) Td ks x.2 (pre++Yz m (i::Td) k) post;rw [length_append,(LN m (i::Td) k x.1).2]at h2;grind [T1,Fk,Ax,LI]
theorem O2 (m:List Nat) (Td:Ah) (t:VT) (x:En T t) (pre post:List Ah):(bV m Td t x).toV =(Iw m pre.length t x).toV (pre++(LI m 0 Td (Fa T t)++post)):=by
 cases t with
 | k kd=>
   simp only [bV,Iw,PP.toV,DV.toV,Fa];cases m with
   | nil=>
     have:=T4 0 (0::Td) kd x pre post;have e:Yz 0 (0::Td) kd=[]:=by unfold Yz Pv;grind
     grind [LI]
   | cons a m=>
     grind [T4,LI]
 | s E=>grind [bV,Iw,PP.toV,DV.toV,T5,Fa]
 | f g=>simp only [bV,Iw,PP.toV,DV.toV,DC.toC,PC.toC]
theorem T6: ∀ (ow:List (List Nat)) (p:Nat) (Td:Ah) (ts:List VT) (x:RT T ts) (pre post:List Ah),Be (Nk ow p Td ts x)=(BX ow pre.length ts x).map (PP.toV (pre++(YA T ow p Td ts++post)))
 | [],_,_,[],_,_,_=>by simp [Nk,BX,Be]
 | _::_,_,_,[],_,_,_=>by simp [Nk,BX,Be]
 | [],p,Td,[t],x,pre,post=>by have:=O2 [] (p::Td) t x pre post;grind [LI,Nk,BX,Be,YA]
 | m::ms,p,Td,[t],x,pre,post=>by have:=O2 m (p::Td) t x pre post;grind [YA,Nk,BX,Be]
 | [],p,Td,t::u::ts,x,pre,post=>by
   have h1:=O2 [] (p::Td) t x.1 pre post;have e:LI [] 0 (p::Td) (Fa T t)=[]:=by cases Fa T t<;>rfl
   rw [e]at h1;have h2:=T6 [] (p+1) Td (u::ts) x.2 pre post;simp only [Nk,BX,Be,map_cons,h1,h2,YA]
 | m::ms,p,Td,t::u::ts,x,pre,post=>by have h1:=O2 m (p::Td) t x.1 pre (YA T ms (p+1) Td (u::ts)++post);have h2:=T6 ms (p+1) Td (u::ts) x.2 (pre++LI m 0 (p::Td) (Fa T t)) post;rw [length_append,(My m 0 (p::Td) (Fa T t) (NZ t x.1)).2]at h2;grind [Nk,BX,Be,YA]
theorem xF (ow:List (List Nat)) (Td:Ah) (ts:List VT) (x:RT T ts):(dvR ow Td ts x).toV =Nj (YA T ow 0 Td ts) (BX ow 0 ts x):=by
 have h:=T6 ow 0 Td ts x [] [];simp only [List.length_nil,nil_append,append_nil]at h;unfold dvR Nj;split
 ·rename_i v hv;rw [hv]at h;simp only [Be]at h;split
  ·grind
  ·rename_i hne
   match hp:BX ow 0 ts x,h,hne with
   | [p],_,hne=>grind
   | [],h,_=>simp at h
   | _::_::_,h,_=>simp at h
 ·rename_i hne;split
  ·rename_i p hp;rw [hp]at h
   match hv:Nk ow 0 Td ts x,h,hne with
   | [v],_,hne=>grind
   | [],h,_=>simp [Be]at h
   | _::_::_,h,_=>simp [Be]at h
  ·simp only [DV.toV,h]
theorem sA (m:Nat) (id:Ah) (k:Kd) (x:OW T.den k):(uP m id k x).ok :=by unfold uP;grind [DC.ok]
theorem io: ∀ (ms:List Nat) (i:Nat) (Td:Ah) (ks:List Kd) (x:DK T.den ks),B3 (T1 ms i Td ks x)
 | [],_,_,[],_=>by simp [T1,B3]
 | _::_,_,_,[],_=>by simp [T1,B3]
 | [],i,Td,k::ks,x=>by simp only [T1,B3,DC.ok,true_and];exact io [] i Td ks x.2
 | m::ms,i,Td,k::ks,x=>by simp only [T1,B3];exact⟨sA _ _ _ _,io ms (i+1) Td ks x.2⟩
theorem W4 {H:Az T} {n:Nat} (m:List Nat) (Td:Ah) (t:VT) (x:En T t):(bV m Td t x).ok H n:=by cases t<;>grind [bV,DV.ok,sA,io,DC.ok]
theorem iq {H:Az T} {n:Nat}: ∀ (ow:List (List Nat)) (p:Nat) (Td:Ah) (ts:List VT) (x:RT T ts),CL H n (Nk ow p Td ts x)
 | [],_,_,[],_=>by simp [Nk,CL]
 | _::_,_,_,[],_=>by simp [Nk,CL]
 | [],p,Td,[t],x=>by simp only [Nk,CL,and_true];exact W4 _ _ _ _
 | m::ms,p,Td,[t],x=>by simp only [Nk,CL,and_true];exact W4 _ _ _ _
 | [],p,Td,t::u::ts,x=>by simp only [Nk,CL];exact⟨W4 _ _ _ _,iq [] (p+1) Td (u::ts) x.2⟩
 | m::ms,p,Td,t::u::ts,x=>by simp only [Nk,CL];exact⟨W4 _ _ _ _,iq ms (p+1) Td (u::ts) x.2⟩
theorem Ad8 {H:Az T} {n:Nat} (ow:List (List Nat)) (Td:Ah) (ts:List VT) (x:RT T ts):(dvR ow Td ts x).ok H n:=by
 have:=iq (H:=H) (n:=n) ow 0 Td ts x;unfold dvR;split
 all_goals simp_all [CL,DV.ok]
def AgH (m:Nat) (id:Ah) (k:Kd):Bool:=match Pv m k with
 | 0=>true
 | _=>match m with
   | 2=>true
   | _=> !E9 id&& !C2 id
def Aa2:List Nat->Nat->Ah->List Kd->Bool
 | m::ms,i,Td,k::ks=>AgH m (i::Td) k&&Aa2 ms (i+1) Td ks
 | _,_,_,_=>true
def okR (T:Bl):List (List Nat)->Nat->Ah->List VT->Bool
 | m::ms,p,Td,t::ts=>Aa2 m 0 (p::Td) (Fa T t)&&okR T ms (p+1) Td ts
 | _,_,_,_=>true
theorem Ks: ∀ {a b:List OE} {i j:List Ah},Kb a i=true->Kb b j=true->Kb (a++b) (i++j)=true
 | [],_,[],_,_,h=>h
 | [],_,_::_,_,h,_=>by simp [Kb]at h
 | _::_,_,[],_,h,_=>by simp [Kb]at h
 | o::a,b,x::i,j,h,k=>by simp_all [Kb,Ks]
theorem uR {m:Nat} {id:Ah} {k:Kd} (x:OW T.den k) (h:AgH m id k=true):Kb (JG m k x) (Yz m id k)=true:=by
 cases k with
 | u_ E=>
   match m with
   | 0=>rfl
   | 1=>
     have h:(!E9 id&& !C2 id)=true:=h;simp only [and_eq_true,not_eq_true']at h;show ((E9 id==false&& !C2 id)&&true)=true;grind
   | 2=>rfl
   | _+3=>rfl
 | _=>rfl
theorem T7: ∀ {ms:List Nat} {i:Nat} {Td:Ah} {ks:List Kd} (x:DK T.den ks),Aa2 ms i Td ks=true->Kb (Cm ms ks x) (LI ms i Td ks)=true
 | [],_,_,_,_,_=>rfl
 | _::_,_,_,[],_,_=>rfl
 | m::ms,i,Td,k::ks,x,h=>by simp only [Aa2,and_eq_true]at h;exact Ks (uR x.1 h.1) (T7 x.2 h.2)
theorem lL: ∀ {ow:List (List Nat)} {p:Nat} {Td:Ah} {ts:List VT} (x:RT T ts),okR T ow p Td ts=true->Kb (Dq ow ts x) (YA T ow p Td ts)=true
 | [],_,_,[],_,_=>rfl
 | [],_,_,[_],_,_=>rfl
 | [],_,_,_::_::_,_,_=>rfl
 | _::_,_,_,[],_,_=>rfl
 | m::ms,p,Td,[t],x,h=>by
   simp only [okR,and_eq_true]at h;have e:YA T (m::ms) p Td [t]=LI m 0 (p::Td) (Fa T t):=by cases ms<;>simp [YA]
   rw [e];exact T7 (NZ t x) h.1
 | m::ms,p,Td,t::u::ts,x,h=>by rw [okR,and_eq_true]at h;rw [YA];exact Ks (T7 (NZ t x.1) h.1) (lL x.2 h.2)
def KX (ns:List Ah) (i:Ah):Bool:=match ns with
 | []=>false
 | n::r=>match Bc i n with
   | true=>true
   | false=>match aeS n i with
     | true=>true
     | false=>KX r i
where aeS (n i:Ah):Bool:=match i with
 | m::_::j=>Nat.beq m 1000007&&Bc j n
 | _=>false
theorem sB: ∀ (ns:List Ah) (i:Ah),KX ns i=Lt ns i
 | [],_=>rfl
 | n::r,i=>by
   have e:KX.aeS n i=D9 n i:=by unfold KX.aeS D9;split<;>simp [CI]
   simp only [KX,Lt,List.any_cons,e,CI];have:=sB r i;unfold Lt at this;rw [this];cases i==n<;>cases D9 n i<;>rfl
def pL {P:Program} {I:World->Prop} (Γ:List (CE T P I)) (st:Ag T) (f:FuncId) (xs:List Operand) (d:Nat):M (Ag T):=
 match Iu st [] xs with
 | some vs=>match Ms st vs,RB vs with
   | some ws,[]=>match Qx f ws Γ with
     | some ⟨e,x⟩=>match e.ow with
       | []=> .no
       | m::ms=>mIf (Mo (YA T (m::ms) 0 (d::st.pre) e.rs)&&okR T (m::ms) 0 (d::st.pre) e.rs) (.opt (e.run x) fun r=>
          .ret ((Bm (sy (m::ms) 0 (d::st.pre) e.rs r) (st.Ti (KX (YA T (m::ms) 0 (d::st.pre) e.rs)))).put (some d) (dvR (m::ms) (d::st.pre) e.rs r)))
     | none=> .no
   | _,_=> .no
 | none=> .no
theorem uS {H:Az T} {P:Program} {I:World->Prop} {Γ:List (CE T P I)} {st:Ag T} (hw:AK H st) {f:FuncId} {xs:List Operand} {o:Oper} (hk:Cb o.op= .call f xs) {d:Nat} (hd:o.dst=some d):
 Yl (pL Γ st f xs d) (fun d_=>(∃ H',Nx H st H' d_)/\d_.pre=st.pre/\ ∀ K:St->Prop,K d_.toSt->E4 P I o st.toSt K):=by
 unfold pL;split
 ·rename_i vs hvs;split
  ·rename_i ws hws ayL;split
   ·rename_i e x hx;obtain⟨he,hx⟩:=FY hx;split
    ·exact Yl.no
    ·rename_i m ms how;refine Yl.mIf fun hg=>Yl.opt fun r hr=>Yl.ret ?_;simp only [and_eq_true]at hg;obtain⟨g1,g2⟩:=hg;have hnd:=HM g1;obtain⟨a1,a2,a3⟩:=Dc (key:=[]) hw (fun _ hl=>by cases hl) rfl hvs;change (st.toSt.args true xs).1 at a2;change (st.toSt.args true xs).2=Be vs at a3;have hc:=e.okx (by grind) x r hr;rw [he,how]at hc;have hs:(Be vs).map (BC st.toSt)=FX e.ps x:=by rw [Gk hws,hx]
     have hp:KX (YA T (m::ms) 0 (d::st.pre) e.rs)=Lt (YA T (m::ms) 0 (d::st.pre) e.rs):=by grind [sB]
     rw [hp];generalize hns:YA T (m::ms) 0 (d::st.pre) e.rs=ns at *;obtain⟨⟨H1,n1⟩,k1,k2,k3,k4,k5⟩:=Ag.acJ hw (Lt ns);obtain⟨x1,x2,x3⟩:=lK (m::ms) 0 (d::st.pre) e.rs r;rw [hns]at x1 x2;obtain⟨H2,n2⟩:=I6 (l:=sy (m::ms) 0 (d::st.pre) e.rs r) n1 x3 (by grind) (fun p hp' e' he' q=>by
      have h1:=k5 e' he';have h2:p.1∈ns:=by grind
      grind [Lt])
     obtain⟨s1,s2,s3,s4,s5,_⟩:=Er (sy (m::ms) 0 (d::st.pre) e.rs r) (st.Ti (Lt ns));obtain⟨H3,n3⟩:=Ag.Th n2 (some d) (Ad8 (m::ms) (d::st.pre) e.rs r);refine⟨⟨H3,n3⟩,by rw [AW,s3,k4],fun K hK=>?_⟩;have ajC:CH ((st.toSt.j_ (Lt ns) (CN (Dq (m::ms) e.rs r) ns++(st.toSt.so.filter fun e=> !(Lt ns e.id)).map (AB.j_ (Lt ns)))).put (some d) (Nj ns (BX (m::ms) 0 e.rs r)))
      ((Bm (sy (m::ms) 0 (d::st.pre) e.rs r) (st.Ti (Lt ns))).put (some d) (dvR (m::ms) (d::st.pre) e.rs r)).toSt :=by
      rw [Ag.r_,xF,hns];refine CH.put ?_ _ _;have t1:(Bm (sy (m::ms) 0 (d::st.pre) e.rs r) (st.Ti (Lt ns))).toSt.tm =(st.Ti (Lt ns)).toSt.tm :=by grind [Ag.toSt]
      have t2:(Bm (sy (m::ms) 0 (d::st.pre) e.rs r) (st.Ti (Lt ns))).toSt.gh =(st.Ti (Lt ns)).toSt.gh :=by simp only [Ag.toSt,s2]
      have t3:(Bm (sy (m::ms) 0 (d::st.pre) e.rs r) (st.Ti (Lt ns))).toSt.so =CN (Dq (m::ms) e.rs r) ns++(st.toSt.so.filter fun e=> !(Lt ns e.id)).map (AB.j_ (Lt ns)):=by grind
      refine⟨by rw [t1];exact k1.get.1,fun i=>by rw [t1];exact k1.get.2 i,fun y hy=>by rw [t3]at hy;exact hy,fun hn=>by rw [t3];exact hn,by rw [t2];exact k2.get,?_⟩;show (Bm (sy (m::ms) 0 (d::st.pre) e.rs r) (st.Ti (Lt ns))).pre =st.pre;rw [s3,k4]
     intro F a w G Q hI hR;refine Oper.wp_mono (fun _ _ ⟨s,G',hs',hR'⟩=>⟨_,G',hK,(hs'▸hR').less ajC⟩) (E4.azO (K:=(· =(st.toSt.j_ (Lt ns) (CN (Dq (m::ms) e.rs r) ns++(st.toSt.so.filter fun e=> !(Lt ns e.id)).map (AB.j_ (Lt ns)))).put (some d) (Nj ns (BX (m::ms) 0 e.rs r)))) d hk hd a2 ?_ ?_ ?_ ?_ hnd rfl F a w G Q hI hR)
     ·grind [JH]
     ·rw [a3,FE,ayL]
     ·grind
     ·rw [<-hns];exact lL r g2
   ·exact Yl.no
  ·exact Yl.no
 ·exact Yl.no
end Go.PL
set_option linter.all false
namespace Go.PL
open Go Go.RowKit
variable {T:Bl}
def YM (E E':Nat) (l:List (T.den E')):Option (List (T.den E)):=match Nat.decEq E' E with
 | .isTrue h=>some (h▸l)
 | .isFalse _=>none
theorem JJ {E E':Nat} {l:List (T.den E')} {m:List (T.den E)} (h:YM E E' l=some m): ∃ e:E'=E,m=e▸l:=by
 unfold YM at h;split at h
 all_goals grind
theorem YN {den:Nat->Type} {enc: ∀ E,den E->List C}: ∀ (ks:List Kd) (y:DK den ks),(BD enc ks y).map Pr=BD enc ks y
 | [],_=>rfl
 | k::ks,y=>by simp only [BD,map_cons,YN ks y.2];cases k<;>rfl
theorem Vz: ∀ (ks:List Kd) (y:DK T.den ks),(BP T ks y).map Pr=BD T.enc ks y
 | [],_=>rfl
 | k::ks,y=>by simp only [BP,BD,map_cons,Vz ks y.2];cases k<;>rfl
theorem QF (E:Nat) (n:Int): ∀ (k:Int) (l:List (T.den E)),(AH T E n k l).map Pr=l.flatMap (T.enc E)
 | _,[]=>rfl
 | k,x::l=>by
   rw [AH,map_append,QF E n (k+1) l,flatMap_cons];congr 1;split
   ·rw [Bl.abz,Vz,T.abw]
   ·rw [<-T.abw,YN]
def pDT (r id i:Ah):Bool:=match Bc i r with
 | true=>true
 | false=>KX.aeS id i
theorem Kt (n i:Ah):KX.aeS n i=D9 n i:=by unfold KX.aeS D9;split<;>simp [CI]
theorem Ad9 (r id:Ah):pDT r id=pD r id:=by grind [pDT,pD,CI,Kt]
theorem acE {id:Ah} {t:Nat} {x:DX T}: ∀ {l:List (DE T)} {e:DE T},(l.map DE.id).Nodup ->e∈TQ id t x l->(e∈l/\e.id ≠ id)\/e=⟨id,t,x⟩
 | [],e,_,h=>by cases h
 | a::r,e,hn,h=>by
   rw [map_cons]at hn;obtain⟨n1,n2⟩:=nodup_cons.1 hn;unfold TQ at h;split at h
   ·rename_i hb;have hb:=AQ.1 hb;grind
   ·rename_i hb;rcases mem_cons.1 h with rfl | h
    ·exact .inl ⟨by simp,fun q=>by rw [AQ.2 q]at hb;cases hb⟩
    ·rcases acE n2 h with ⟨h1,h2⟩ | h
     ·exact .inl ⟨by simp [h1],h2⟩
     ·exact .inr h
theorem eV {H:Az T} {st:Ag T} (hw:AK H st) {p:Ah->Bool} {e:AB} (h:e∈(st.Ti p).toSt.so): ∃ d∈st.toSt.so,p d.id=false/\e=d.j_ p:=by rw [(Ag.acJ hw p).2.2.2.1]at h;grind
theorem Ku {A B:St} (h1:I3 A.tm B.tm) (h2:I3 A.gh B.gh) (h3: ∀ e∈B.so,e∈A.so) (h4:(B.so.map (·.id)).Nodup) (h5:B.pre=A.pre):CH A B:=⟨h1.get.1,h1.get.2,h3,fun _=>h4,h2.get,h5⟩
theorem Fq {H:Az T} {st:Ag T} (hw:AK H st):(st.toSt.so.map (·.id)).Nodup :=by
 have e:st.toSt.so.map (·.id)=st.so.map DE.id:=by grind [Ag.toSt,map_congr_left,DE.toE_id]
 rw [e];exact hw.nd
theorem IE {α:Type} [Inhabited α] {l:List α} {i:Int} {x:α} (h:idx l i=some x):0<=i/\i<(l.length:Int)/\l[i.toNat]? =some x:=by have hi:=Rm h;have:=kR h;grind
def Gm:(ks:List Kd)->DK T.den ks->Nat->Option ((F:Nat)×List (T.den F))
 | .u_ F::_,y,0=>some ⟨F,y.1⟩
 | _::ks,y,p+1=>Gm ks y.2 p
 | _,_,_=>none
theorem N3: ∀ {ks:List Kd} {y:DK T.den ks} {p:Nat} {F:Nat} {l:List (T.den F)},Gm ks y p=some ⟨F,l⟩->(BP T ks y)[p]? =some (.isl F (T.sz F) l.length (l.flatMap (T.enc F)))/\p<ks.length
 | [],_,_,_,_,h=>by simp [Gm]at h
 | .u_ F'::ks,y,0,F,l,h=>by simp only [Gm,injEq]at h;injection h with h1 h2;subst h1;have h2:=eq_of_heq h2;subst h2;exact⟨rfl,by simp⟩
 | .int k::ks,y,0,F,l,h=>by simp [Gm]at h
 | .bool ::ks,y,0,F,l,h=>by simp [Gm]at h
 | .str ::ks,y,0,F,l,h=>by simp [Gm]at h
 | k::ks,y,p+1,F,l,h=>by
   have h:Gm ks y.2 p=some ⟨F,l⟩:=by cases k<;>simpa only [Gm] using h
   obtain⟨a,b⟩:=N3 h;exact⟨by simpa only [BP,List.getElem?_cons_succ] using a,by simp;omega⟩
def Gn (F:Nat) (l:List (T.den F)):(ks:List Kd)->DK T.den ks->Nat->Option (DK T.den ks)
 | .u_ F'::_,y,0=>match Nat.decEq F F' with
   | .isTrue h=>some (h▸l,y.2)
   | .isFalse _=>none
 | k::ks,y,p+1=>match Gn F l ks y.2 p with
   | some z=>some (y.1,z)
   | none=>none
 | _,_,_=>none
theorem Mz {F:Nat} {l:List (T.den F)}: ∀ {ks:List Kd} {y z:DK T.den ks} {p:Nat},Gn F l ks y p=some z->BP T ks z=(BP T ks y).set p (.isl F (T.sz F) l.length (l.flatMap (T.enc F)))/\p<ks.length
 | [],_,_,_,h=>by simp [Gn]at h
 | .u_ F'::ks,y,z,0,h=>by
   simp only [Gn]at h;split at h
   ·rename_i e _;subst e;injection h with h;subst h;exact⟨rfl,by simp⟩
   ·cases h
 | .int k::ks,y,z,0,h=>by simp [Gn]at h
 | .bool ::ks,y,z,0,h=>by simp [Gn]at h
 | .str ::ks,y,z,0,h=>by simp [Gn]at h
 | k::ks,y,z,p+1,h=>by
   have h:(match Gn F l ks y.2 p with | some z=>some ((y.1,z):OW T.den k×DK T.den ks) | none=>none)=some z:=by cases k<;>simpa only [Gn] using h
   split at h
   ·rename_i z' hz;injection h with h;subst h;obtain⟨a,b⟩:=Mz hz;exact⟨by simp only [BP,set_cons_succ];rw [a],by simp;omega⟩
   ·cases h
theorem QG {E:Nat} {n:Int} {c:C} {p:Nat} {x':T.den E}: ∀ {l:List (T.den E)} {k:Int} {i:Nat} {x:T.den E},l[i]? =some x->k+i<n->T.abz E x'=(T.abz E x).set p c->p<T.sz E->(AH T E n k l).set (i*T.sz E+p) c=AH T E n k (l.set i x')
 | [],_,_,_,h,_,_,_=>by simp at h
 | y::l,k,0,x,h,hn,hx,hp=>by simp only [getElem?_cons_zero,injEq]at h;simp_all [AH,Ei]
 | y::l,k,i+1,x,h,hn,hx,hp=>by
   have hl:(if k<n then T.abz E y else T.enc E y).length =T.sz E:=by grind [Ei]
   rw [set_cons_succ,AH,AH,List.set_append_right _ _ (by rw [hl,add_mul,one_mul];omega),hl,show (i+1)*T.sz E+p - T.sz E=i*T.sz E+p by rw [add_mul,one_mul];omega];rw [QG (by simpa using h) (by push_cast at hn;omega) hx hp]
theorem uT (E:Nat) (x:T.den E):Au (T.abz E x)=true:=by
 have: ∀ (ks:List Kd) (y:DK T.den ks),Au (BP T ks y)=true:=by
  intro ks;induction ks with
  | nil=>intro _;rfl
  | cons k ks ih=>
    intro y;simp only [BP,Au,and_eq_true];exact⟨by cases k<;>rfl,ih y.2⟩
 exact this _ _
def Yld (P:Program) (I:World->Prop) (o:Oper) (A B:St):Prop:= ∀ (F:Fr) (a:Act) (w:World) (G:AJ),F.I=I->R F A a w G-> ∃ v G',(∀ w',CY w w'->(execOp a.eval o).run P w'= .ok (.value v) w')/\R F B (a.put o.dst v) w G'
theorem Yld.esc {P:Program} {I:World->Prop} {o:Oper} {A B:St} {K:St->Prop} (h:Yld P I o A B) (hK:K B):E4 P I o A K:=fun F a w G Q hI hR=>by obtain⟨v,G',h1,h2⟩:=h F a w G hI hR;exact AO (h1 w (CY.refl w)) ⟨_,G',hK,h2⟩
theorem uU {w w':World} {b k:Nat} {v:Value} (h:CY w w') (hc:w.cell? ⟨b,k,none⟩=some v):w'.cell? ⟨b,k,none⟩=some v:=by rw [aaD (h.block b (block_lt_of_cell hc))];exact hc
def dlx (P:Program) (o:Oper) (st:Ag T):M (Ag T):=match o.op with
 | .load t x=>match o.dst,st.arg [] x,KO P t with
   | some d,some (.c (.rp id N i off)),some (false,1)=>match Jz st id with
     | some ⟨E,(nn,l,none)⟩=>mIf (E9 id&&(Nat.beq N (T.sz E)&&(!(C2 (d::st.pre))&& !(E9 (d::st.pre))))) (.opt (idx l i) fun x=> .opt (A1 (i<nn)) fun _=>match Gm (T.ks E) (T.un E x) off with
       | some ⟨F,y⟩=> .ret ((Bm [(d::st.pre, .row F y)] ((st.Ti (pDT (d::st.pre) id)).abT id (.deep E nn l (some (i,off))))).put (some d) (.c (.c (.n_ (d::st.pre)))))
       | none=> .no)
     | _=> .no
   | _,_,_=> .no
 | _=> .no
theorem xG {H:Az T} {P:Program} {I:World->Prop} {st:Ag T} (hw:AK H st) {o:Oper}:Yl (dlx P o st) (fun d_=>(∃ H',Nx H st H' d_)/\d_.pre=st.pre/\Yld P I o st.toSt d_.toSt):=by
 unfold dlx;split
 ·rename_i t x hop;split
  ·rename_i d id N i off hd hx ht;split
   ·rename_i E nn l hdr;refine Yl.mIf fun hg=>Yl.opt fun xx hxx=>Yl.opt fun u hu=>?_;simp only [and_eq_true,beq_eq,not_eq_true']at hg;obtain⟨g1,g2,g3,g4⟩:=hg;subst g2;split
    ·rename_i F y hy;refine Yl.ret ?_;have hin:=Ck hu;obtain⟨i0,i1,hxi⟩:=IE hxx;obtain⟨a1,a2,a3⟩:=Hd hw hx;obtain⟨hmk,hlr,e,he1,he2,he3⟩:=BW hdr;obtain⟨hc,acX⟩:=N3 hy;have hE:e.toE=⟨id,some (E,T.sz E,l.length),AH T E nn 0 l,true⟩:=by unfold DE.toE;rw [he3,he2];rfl
     obtain⟨⟨H1,n1⟩,k1,k2,k3,k4,k5⟩:=Ag.acJ hw (pDT (d::st.pre) id);have hp:pDT (d::st.pre) id=pD (d::st.pre) id:=Ad9 _ _;rw [hp]at n1 k1 k2 k3 k4 k5 ⊢;have amP:d::st.pre ≠ id:=fun q=>by rw [q,g1]at g4;cases g4
     obtain⟨H2,n2⟩:=Ag.abP n1.ok id (x:= .deep E nn l (some (i,off))) trivial;obtain⟨H3,n3⟩:=I6 (l:=[(d::st.pre,DX.row F y)]) (n1.trans n2) (fun p hp'=>by rcases mem_singleton.1 hp' with rfl;trivial) (by simp) (fun p hp' e' he' q=>by
      rcases mem_singleton.1 hp' with rfl;have arN:e'.id∈((st.Ti (pD (d::st.pre) id)).so.map DE.id):=by rw [<-Yk id (st.Ti (pD (d::st.pre) id)).nx (.deep E nn l (some (i,off)))];exact mem_map.2 ⟨e',he',rfl⟩
      grind [pD])
     obtain⟨s1,s2,s3,s4,s5,_⟩:=Er [(d::st.pre,DX.row F y)] ((st.Ti (pD (d::st.pre) id)).abT id (.deep E nn l (some (i,off))));obtain⟨H4,n4⟩:=Ag.Th n3 (some d) (v:= .c (.c (.n_ (d::st.pre)))) (by simp only [DV.ok,DC.ok]);refine⟨⟨H4,n4⟩,by rw [AW,s3];exact k4,fun Fr a w G hI hR=>?_⟩;have hL:st.toSt.Tz id=some e.toE:=hR.U_ (mem_map.2 ⟨e,he1,rfl⟩) (by rw [hE]) g1;have hk:e.toE.cs[i.toNat*T.sz E+off]? =some (.isl F (T.sz F) y.length (y.flatMap (T.enc F))):=by rw [hE];show (AH T E nn 0 l)[_]? =_;rw [JB hxi acX,if_pos (by omega)];exact hc
     have hxv:=hR.arg rfl a2;rw [a3]at hxv;simp only [DV.toV,DC.toC,Ad,Af]at hxv;obtain⟨b,hb1,hv⟩:=hxv;obtain⟨G',q1,b2,v,q2,q3,q4,q5⟩:=hR.extract hL hk (r:=d::st.pre) g3 g4;rw [hb1]at q2;injection q2 with q2;subst q2;obtain⟨dd,ti,hu',hd',_⟩:=Dl ht;refine⟨v,G',fun w' hS=>?_,?_⟩
     ·simp [execOp,hop,hv,DP hu' hd' (uU hS q3)]
     ·rw [hd];have arP:=R.put (d:=some d) q1 (show Ad w G' (V.c (C.n_ (d::st.pre))) v by simp only [Ad,Af];exact⟨q4,q5⟩);refine arP.less ?_;rw [Ag.r_];refine CH.put (Ku ?_ ?_ ?_ ?_ ?_) _ _
      ·have:(Bm [(d::st.pre,DX.row F y)] ((st.Ti (pD (d::st.pre) id)).abT id (.deep E nn l (some (i,off))))).toSt.tm =(st.Ti (pD (d::st.pre) id)).toSt.tm :=by simp only [Ag.toSt,s1,s4];rfl
       rw [this];exact k1
      ·have:(Bm [(d::st.pre,DX.row F y)] ((st.Ti (pD (d::st.pre) id)).abT id (.deep E nn l (some (i,off))))).toSt.gh =(st.Ti (pD (d::st.pre) id)).toSt.gh :=by simp only [Ag.toSt,s2];rfl
       rw [this];exact k2
      ·intro z hz;rw [s5]at hz;simp only [map_cons,map_nil,List.singleton_append,mem_cons]at hz;simp only [St.j_,mem_cons,mem_map,mem_filter];rcases hz with rfl | hz
       ·exact .inl rfl
       ·right;obtain⟨e3,h1,rfl⟩:=mem_map.1 hz;rcases acE n1.ok.nd h1 with ⟨h1,h2⟩ | h1
        ·obtain⟨d3,h3,h4,h5⟩:=eV hw (mem_map.2 ⟨e3,h1,rfl⟩);have aDG:d3.id ≠ id:=by grind [AB.K_,DE.toE_id]
         refine⟨d3.j_ (pD (d::st.pre) id),⟨d3,(by grind [pD]),rfl⟩,?_⟩;grind [D7,AB.K_]
        ·subst h1;refine⟨e.toE.j_ (pD (d::st.pre) id),⟨e.toE,⟨mem_map.2 ⟨e,he1,rfl⟩,by grind⟩,rfl⟩,?_⟩;rw [D8 (by rw [AB.K_,hE]),AB.K_,AB.agT,hE];rfl
      ·exact Fq n3.ok
      ·rw [show (Bm [(d::st.pre,DX.row F y)] ((st.Ti (pD (d::st.pre) id)).abT id (.deep E nn l (some (i,off))))).toSt.pre =st.pre from by show (Bm _ _).pre =_;rw [s3];exact k4];rfl
    ·exact Yl.no
   ·exact Yl.no
  ·exact Yl.no
 ·exact Yl.no
end Go.PL
set_option linter.all false
namespace Go.PL
open Go Go.RowKit
variable {T:Bl}
def Ag.ac_ (st:Ag T) (p:Ah->Bool):Ag T:=let s:=st.aet (DV.q_ p) (fun _=> .u) (fun _=>false) id;{s with so:=s.so.filter fun e=> !(p e.id)&& !(e.x.q_ p)}
theorem sC: ∀ (l:List (DE T)) (n:Nat),Qr (fun _=>false) id n l=l
 | [],_=>rfl
 | e::r,n=>by simp only [Qr,sC r]
theorem YO {p:Ah->Bool} (m n:Nat) (tm:Tm T): ∀ i,(AI m (Pt (DV.q_ p) (fun _=> .u) n tm)).getD i .undef = .undef \/((AI m (Pt (DV.q_ p) (fun _=> .u) n tm)).getD i .undef =(AI m tm).getD i .undef /\((AI m tm).getD i .undef).q_ p=false):=fun i=>by
 unfold AI;simp only [List.getD_eq_getElem?_getD,List.getElem?_map];by_cases hi:i<m
 ·rw [List.getElem?_range hi];simp only [Option.map_some,getD_some,Mq (p:=DV.q_ p) (f:=fun _=>DV.u) (by simp [DV.q_])];split
  ·grind [DV.toV]
  ·rename_i h;exact .inr ⟨rfl,DV.agQ p _ h⟩
 grind
theorem bW (a b:List V) (i:Nat):(a++b).getD i .undef =if i<a.length then a.getD i .undef else b.getD (i - a.length) .undef :=by grind
theorem lM {p:Ah->Bool}: ∀ (l:List (Nat×Tm T)) (n:Nat),((Qq (DV.q_ p) (fun _=> .u) n l).flatMap fun f=>AI f.1 f.2).length =(l.flatMap fun f=>AI f.1 f.2).length /\ ∀ i,((Qq (DV.q_ p) (fun _=> .u) n l).flatMap fun f=>AI f.1 f.2).getD i .undef = .undef \/
 (((Qq (DV.q_ p) (fun _=> .u) n l).flatMap fun f=>AI f.1 f.2).getD i .undef =(l.flatMap fun f=>AI f.1 f.2).getD i .undef /\((l.flatMap fun f=>AI f.1 f.2).getD i .undef).q_ p=false)
 | [],_=>⟨rfl,fun i=> .inl rfl⟩
 | (m,tm)::r,n=>by
   obtain⟨h1,h2⟩:=lM r (n+tm.length);have hl:(AI m (Pt (DV.q_ p) (fun _=> .u) n tm)).length =(AI m tm).length :=by rw [Bt,Bt]
   simp only [Qq,flatMap_cons];refine⟨by rw [length_append,length_append,h1,hl],fun i=>?_⟩;grind [bW,YO]
theorem MA {H:Az T} {st:Ag T} (h:AK H st) (p:Ah->Bool):(∃ H',Nx H st H' (st.ac_ p))/\(st.ac_ p).pre =st.pre/\(∀ e∈(st.ac_ p).so,e∈st.so/\p e.id=false/\e.x.q_ p=false):=by obtain⟨H',hN⟩:=Ag.aeP (p:=DV.q_ p) (f:=fun _=> .u) (q:=fun _=>false) (g:=id) h (fun _=>by simp only [DV.ok]) (fun {x} hx=>hx);refine⟨⟨H',hN.ext,hN.le,Ej hN.ok _⟩,rfl,fun e he=>?_⟩;obtain⟨h1,h2⟩:=mem_filter.1 he;have h1:e∈Qr (fun _=>false) id (st.nx+st.tm.length+M7 st.gh) st.so:=h1;simp_all [sC]
theorem VA {H H2:Az T} {st:Ag T} (hw:AK H st) {p:Ah->Bool} {id:Ah} {ns:List Ah} {x:DX T} (hid: ∀ n∈ns,p n=true) (hok:AK H2 ((st.ac_ p).abT id x)) {new:AB} (aaO:bU (id,x)=new):eH p id ns new st.toSt ((st.ac_ p).abT id x).toSt :=by
 refine⟨?_,fun i=>?_,?_,fun i=>?_,fun z hz=>?_,Fq hok,rfl⟩
 ·show (AI _ _).length =(AI _ _).length;rw [Bt,Bt];rfl
 ·exact YO st.m st.nx st.tm i
 ·exact(lM st.gh _).1
 ·exact(lM st.gh _).2 i
 ·obtain⟨e,he,rfl⟩:=mem_map.1 hz;obtain⟨⟨H1,n1⟩,_,k3⟩:=MA hw p;rcases acE n1.ok.nd he with ⟨h1,h2⟩ | h1
  ·right;obtain⟨q1,q2,q3⟩:=k3 e h1;refine⟨mem_map.2 ⟨e,q1,rfl⟩,by rw [DE.toE_id];exact h2,fun hq=>?_,?_⟩
   ·grind [DE.toE_id]
   ·unfold DE.toE;cases hx:e.x with
    | box cs=>
      grind [DX.q_,F3]
    | row E l=>grind
    | deep E n l h=>grind
  grind [sx]
def T8 (rs:List Ah) (id i:Ah):Bool:=match rs with
 | []=>KX.aeS id i
 | r::rs=>match Bc i r with
   | true=>true
   | false=>T8 rs id i
theorem ir: ∀ {rs:List Ah} {id r:Ah},r∈rs-> ∀ i,pD r id i=true->T8 rs id i=true
 | [],_,_,h,_,_=>by cases h
 | x::rs,id,r,h,i,hi=>by
   unfold T8;split
   ·rfl
   ·rename_i hb;rcases mem_cons.1 h with rfl | h
    ·simp only [pD,Bool.or_eq_true,beq_iff_eq]at hi;rcases hi with hi | hi
     ·grind [AQ]
     ·have: ∀ rs:List Ah,T8 rs id i=true:=by intro rs;induction rs<;>grind [T8,Kt]
      grind
    ·exact ir h i hi
theorem W5: ∀ {rs:List Ah} {id r:Ah},r∈rs->T8 rs id r=true
 | x::rs,id,r,h=>by
   unfold T8;split
   ·rfl
   ·rename_i hb;rcases mem_cons.1 h with rfl | h
    ·rw [AQ.2 rfl]at hb;cases hb
    ·exact W5 h
def Aeb (h:Option (Int×Nat)) (i:Int):Option Unit:=match h with
 | none=>some ()
 | some (j,_)=>A1 (i=j)
def dsa (P:Program) (o:Oper) (st:Ag T):M (Ag T):=match o.op with
 | .store t x y=>match o.dst,st.arg [] x,st.arg [] y,KO P t with
   | none,some (.c (.rp id N i off)),some (.c (.c (.n_ r))),some (false,1)=>match Jz st id,DA st r with
     | some ⟨E,(nn,l,h)⟩,some ⟨F,y⟩=>mIf (E9 id&&(Nat.beq N (T.sz E)&&(match h with | none=>true | some (_,o)=>Nat.beq o off))) (.opt (idx l i) fun x=> .opt (A1 (i<nn)) fun _=> .opt (Aeb h i) fun _=>
      match Gn F y (T.ks E) (T.un E x) off with
      | some z=> .ret ((st.ac_ (T8 [r] id)).abT id (.deep E nn (l.set i.toNat (T.bd E z)) none))
      | none=> .no)
     | _,_=> .no
   | _,_,_,_=> .no
 | _=> .no
theorem Aec {H:Az T} {P:Program} {I:World->Prop} {st:Ag T} (hw:AK H st) {o:Oper}:Yl (dsa P o st) (fun d_=>(∃ H',Nx H st H' d_)/\d_.pre=st.pre/\ ∀ K:St->Prop,K d_.toSt->E4 P I o st.toSt K):=by
 unfold dsa;split
 ·rename_i t x y hop;split
  ·rename_i id N i off r hd hx hy ht;split
   ·rename_i E nn l hh F yy hdr Tc;refine Yl.mIf fun hg=>Yl.opt fun xx hxx=>Yl.opt fun u hu=>Yl.opt fun u2 hu2=>?_;simp only [and_eq_true,beq_eq]at hg;obtain⟨g1,g2,g3⟩:=hg;subst g2;split
    ·rename_i z hz;have hin:=Ck hu;obtain⟨i0,i1,hxi⟩:=IE hxx;obtain⟨a1,a2,a3⟩:=Hd hw hx;obtain⟨b1,b2,b3⟩:=Hd hw hy;obtain⟨hmk,hlr,e,he1,he2,he3⟩:=BW hdr;obtain⟨r1,_,er,r2,r3,r4⟩:=BK Tc;obtain⟨hz1,acX⟩:=Mz hz;have hE:e.toE=⟨id,some (E,T.sz E,l.length),Bo T E nn l hh,true⟩:=by grind [DE.toE]
     have amU:T.abz E (T.bd E z)=(T.abz E xx).set off (.isl F (T.sz F) yy.length (yy.flatMap (T.enc F))):=by rw [Bl.abz,T.afT,hz1];rfl
     have aiL:=QG (n:=nn) (k:=0) (x':=T.bd E z) (c:= .isl F (T.sz F) yy.length (yy.flatMap (T.enc F))) (p:=off) hxi (by omega) amU acX;have ac7:(Bo T E nn l hh).set (i.toNat*T.sz E+off) (.isl F (T.sz F) yy.length (yy.flatMap (T.enc F)))=AH T E nn 0 (l.set i.toNat (T.bd E z)):=by
      rw [<-aiL];cases hh with
      | none=>rfl
      | some jo=>
        obtain⟨j,o2⟩:=jo;have g3:Nat.beq o2 off=true:=g3;have g3:=eq_of_beq_eq_true g3;have hho:i=j:=Ck hu2;grind [Bo,List.set_set]
     obtain⟨⟨H1,n1⟩,k2,k3⟩:=MA hw (T8 [r] id);obtain⟨H2,n2⟩:=Ag.abP n1.ok id (x:= .deep E nn (l.set i.toNat (T.bd E z)) none) trivial;refine Yl.ret ⟨⟨H2,n1.trans n2⟩,k2,fun K hK Fr a w G Q hI hR=>?_⟩;have hL:st.toSt.Tz id=some e.toE:=hR.U_ (mem_map.2 ⟨e,he1,rfl⟩) (by rw [hE]) g1;have hxv:=hR.arg rfl a2;rw [a3]at hxv;simp only [DV.toV,DC.toC,Ad,Af]at hxv;obtain⟨b,hb1,hv⟩:=hxv;have hyv:=hR.arg rfl b2;rw [b3]at hyv;simp only [DV.toV,DC.toC,Ad,Af]at hyv;have hcl:(a.eval y).cells.toList =[a.eval y]:=by have:=hyv.2;cases hq:a.eval y<;>rw [hq]at this<;>first | rfl | cases this
     have hc:Ai w G [C.any] (a.eval y).cells.toList :=by simp_all [Ai,Af]
     have hlen:e.toE.cs.length=l.length*T.sz E:=by grind [Fi]
     have ay1:off<T.sz E:=acX;have hk:i.toNat*T.sz E+off<e.toE.cs.length:=by rw [hlen];have:(i.toNat+1)*T.sz E<=l.length*T.sz E:=mul_le_mul_right _ (by omega);grind
     obtain⟨cur,T',c1,c2,c3⟩:=hR.ady hL hb1 (off:=i.toNat*T.sz E+off) hc (by simp;omega) rfl rfl;have hs:=Eg (P:=P) ht c1 (by grind) c2 (Ai.one hc);have aco:(w.setRow b (cur.toList.take (i.toNat*T.sz E+off)++(a.eval y).cells.toList ++cur.toList.drop (i.toNat*T.sz E+off+(a.eval y).cells.toList.length)).toArray).cell? ⟨b,i.toNat*T.sz E+off,none⟩=some (a.eval y):=by
      have:=setRow_heap w b cur (cur.toList.take (i.toNat*T.sz E+off)++(a.eval y).cells.toList ++cur.toList.drop (i.toNat*T.sz E+off+(a.eval y).cells.toList.length)).toArray T' (0,0) c1;simp only [World.cell?,this];have hkl:(cur.toList.take (i.toNat*T.sz E+off)).length =i.toNat*T.sz E+off:=by grind
      simp_all
     generalize w.setRow b _=w1 at hs c3 aco;have J_:(execOp a.eval o).run P w= .ok .skip w1:=by simp_all [execOp]
     have hr1:er.toE=⟨r,some (F,T.sz F,yy.length),yy.flatMap (T.enc F),true⟩:=by rw [DE.toE_row r4,r3]
     have hrd:E9 r=false:=Fp r1;have amP:r ≠ id:=(by grind);have amT: ∀ d∈st.toSt.so,d.id ≠ id->d∈(st.toSt.afU id e.toE.row (e.toE.cs.take (i.toNat*T.sz E+off)++[C.any]++e.toE.cs.drop (i.toNat*T.sz E+off+[C.any].length))).so :=fun d hd' hne=>mem_map.2 ⟨d,hd',D7 hne⟩;have hL2:(st.toSt.afU id e.toE.row (e.toE.cs.take (i.toNat*T.sz E+off)++[C.any]++e.toE.cs.drop (i.toNat*T.sz E+off+[C.any].length))).Tz id=some ⟨id,e.toE.row,e.toE.cs.take (i.toNat*T.sz E+off)++[C.any]++e.toE.cs.drop (i.toNat*T.sz E+off+[C.any].length),true⟩:=by refine c3.U_ (mem_map.2 ⟨e.toE,mem_map.2 ⟨e,he1,rfl⟩,?_⟩) rfl g1;grind [D8]
     have hLr:(st.toSt.afU id e.toE.row (e.toE.cs.take (i.toNat*T.sz E+off)++[C.any]++e.toE.cs.drop (i.toNat*T.sz E+off+[C.any].length))).look r=some er.toE:=
      c3.aef (amT _ (mem_map.2 ⟨er,r2,rfl⟩) (by grind)) (by grind) hrd (by grind)
     have hsl:(e.toE.cs.take (i.toNat*T.sz E+off)++[C.any]++e.toE.cs.drop (i.toNat*T.sz E+off+[C.any].length)).length =e.toE.cs.length:=by simp;omega
     obtain⟨G',q⟩:=c3.ai7 (p:=T8 [r] id) [⟨i.toNat*T.sz E+off,r,F,T.sz F,yy.length,yy.flatMap (T.enc F)⟩] hL2 hb1 (fun ar har=>by
      rcases mem_singleton.1 har with rfl;exact⟨by rw [hLr,hr1];rfl,by grind,ir (by simp),_,aco,hyv.1⟩) (by simp) ((st.ac_ (T8 [r] id)).abT id (.deep E nn (l.set i.toNat (T.bd E z)) none)).toSt (by
      have aaO:bU (id,(DX.deep E nn (l.set i.toNat (T.bd E z)) none:DX T))=⟨id,e.toE.row,Iv (e.toE.cs.take (i.toNat*T.sz E+off)++[C.any]++e.toE.cs.drop (i.toNat*T.sz E+off+[C.any].length)) [⟨i.toNat*T.sz E+off,r,F,T.sz F,yy.length,yy.flatMap (T.enc F)⟩],true⟩:=by
       show (⟨id,some (E,T.sz E,(l.set i.toNat (T.bd E z)).length),AH T E nn 0 (l.set i.toNat (T.bd E z)),true⟩:AB)=_;have htl:(e.toE.cs.take (i.toNat*T.sz E+off)).length =i.toNat*T.sz E+off:=by grind
       simp only [Iv,List.foldl_cons,List.foldl_nil,hE,length_set];congr 1;rw [<-ac7];apply List.ext_getElem?;intro j;have aDa:((Bo T E nn l hh).take (i.toNat*T.sz E+off)).length =i.toNat*T.sz E+off:=by grind
       have hkk:i.toNat*T.sz E+off<(Bo T E nn l hh).length :=by grind
       simp only [List.getElem?_set];by_cases hj:i.toNat*T.sz E+off=j
       ·grind
       ·rw [if_neg hj,if_neg hj,append_assoc];by_cases hjk:j<i.toNat*T.sz E+off
        ·grind
        ·rw [getElem?_append_right (by omega),aDa,getElem?_append_right (by simp;omega),List.getElem?_drop];grind
      have hB:=VA (ns:=[r]) hw (p:=T8 [r] id) (fun n hn=>by rcases mem_singleton.1 hn with rfl;exact W5 (by simp)) n2.ok aaO;exact⟨hB.len,hB.tm,hB.arW,hB.gh,fun x hx=>(hB.so x hx).imp (fun q=>q) (by grind),hB.nd,hB.pre⟩)
     exact FA J_ (by rw [hd];exact⟨_,G',hK,q⟩)
    ·exact Yl.no
   ·exact Yl.no
  ·exact Yl.no
 ·exact Yl.no
end Go.PL
set_option linter.all false
namespace Go.PL
open Go Go.RowKit
variable {T:Bl}
theorem eW {E:Nat} {n n':Int}: ∀ {l:List (T.den E)} {k:Int},n<=k->n'<=k->AH T E n k l=AH T E n' k l
 | [],_,_,_=>rfl
 | x::l,k,h,h'=>by rw [AH,AH,if_neg (by omega),if_neg (by omega),eW (n':=n') (l:=l) (k:=k+1) (by omega) (by omega)]
theorem YP {E:Nat} {x':T.den E} {n:Int}: ∀ {l:List (T.den E)} {k:Int} {i:Nat},i<l.length->k+i=n->(AH T E n k l).take (i*T.sz E)++(T.abz E x'++(AH T E n k l).drop (i*T.sz E+T.sz E))=AH T E (n+1) k (l.set i x')
 | [],_,_,h,_=>by simp at h
 | y::l,k,0,h,hk=>by
   have hk:k=n:=by grind
   rw [List.set_cons_zero,AH,AH,if_neg (by omega),if_pos (by omega),Nat.zero_mul,zero_add,List.take_zero,nil_append,List.drop_append_of_le_length (by rw [AV];exact le_refl _),List.drop_eq_nil_of_le (by rw [AV];exact le_refl _),nil_append,eW (n':=n+1) (by omega) (by omega)]
 | y::l,k,i+1,h,hk=>by
   have hk':k<n:=by grind
   have e:(i+1)*T.sz E=T.sz E+i*T.sz E:=by rw [add_mul,one_mul,Nat.add_comm]
   rw [set_cons_succ,AH,AH,if_pos hk',if_pos (by omega),e, <-YP (l:=l) (k:=k+1) (by simpa using h) (by push_cast at hk;omega)];rw [List.take_append,List.drop_append,Ei,List.take_of_length_le (by rw [Ei];omega),List.drop_eq_nil_of_le (by rw [Ei];omega),nil_append];grind
def M9:C->C
 | .n_ _=> .any
 | c=>c
def RD (st:Ag T):(ks:List Kd)->List (DC T)->Option (DK T.den ks×List Ah)
 | [],[]=>some ((),[])
 | .u_ F::ks,c::cs=>match Kp c with
   | some r=>match DA st r with
     | some ⟨F',l⟩=>match YM F F' l,RD st ks cs with
       | some l',some (y,rs)=>some ((l',y),r::rs)
       | _,_=>none
     | none=>none
   | none=>none
 | .int k::ks,c::cs=>match HN false (.int k) c,RD st ks cs with
   | some x,some (y,rs)=>some ((x,y),rs)
   | _,_=>none
 | .bool ::ks,c::cs=>match HN false .bool c,RD st ks cs with
   | some x,some (y,rs)=>some ((x,y),rs)
   | _,_=>none
 | .str ::ks,c::cs=>match HN false .str c,RD st ks cs with
   | some x,some (y,rs)=>some ((x,y),rs)
   | _,_=>none
 | _,_=>none
structure Aa3 (st:Ag T) (ks:List Kd) (cs:List (DC T)) (y:DK T.den ks) (rs:List Ah) (b:Nat) (ars:List AR):Prop where
 ids:ars.map (·.r)=rs
 len:cs.length=ks.length
 at_: ∀ x∈ars,st.toSt.look x.r=some x.ent/\b<=x.k/\x.k<b+ks.length/\(Ax cs)[x.k - b]? =some (.n_ x.r)
 anU: ∀ pre post:List C,pre.length=b->Iv (pre++((Ax cs).map M9++post)) ars=pre++(BP T ks y++post)
 pure:Au ((Ax cs).map M9)=true
 noi:((Ax cs).map M9).all ov=true
theorem Aa3.sc {st:Ag T} {ks:List Kd} {cs:List (DC T)} {y:DK T.den ks} {rs:List Ah} {b:Nat} {ars:List AR} (h:Aa3 st ks cs y rs (b+1) ars) (k:Kd) (x:OW T.den k) (c:DC T) (hk:OX k=true) (hc:c.toC=Bk T.enc k x):Aa3 st (k::ks) (c::cs) ((x,y):OW T.den k×DK T.den ks) rs b ars:=by
 have hu:M9 c.toC=XR T k x:=by rw [hc];cases k<;>first | rfl | cases hk
 have hp:(XR T k x).pure =true/\ov (XR T k x)=true:=by cases k<;>first | exact⟨rfl,rfl⟩ | cases hk
 refine⟨h.ids,by simp [h.len],fun z hz=>?_,fun pre post hl=>?_,?_,?_⟩
 ·obtain⟨a1,a2,a3,a4⟩:=h.at_ z hz;grind [Ax]
 ·have:=h.anU (pre++[XR T k x]) post (by simp [hl]);grind [Ax,BP]
 ·simp only [Ax,map_cons,Au,and_eq_true];exact⟨by grind,h.pure⟩
 ·simp only [Ax,map_cons,all_cons,and_eq_true];exact⟨by grind,h.noi⟩
theorem I7 {st:Ag T}: ∀ {ks:List Kd} {cs:List (DC T)} {y:DK T.den ks} {rs:List Ah},RD st ks cs=some (y,rs)-> ∀ b:Nat, ∃ ars,Aa3 st ks cs y rs b ars
 | [],[],y,rs,h,b=>by simp only [RD,injEq]at h;injection h with h1 h2;subst h1 h2;exact⟨[],rfl,rfl,(by grind),(fun pre post _=>rfl),rfl,rfl⟩
 | [],_::_,_,_,h,_=>by simp [RD]at h
 | k::_,[],_,_,h,_=>by grind [RD]
 | .int k::ks,c::cs,y,rs,h,b=>by
   simp only [RD]at h;split at h
   ·rename_i x y' rs' h1 h2;injection h with h;injection h with e1 e2;subst e1 e2;obtain⟨ars,ha⟩:=I7 h2 (b+1);exact⟨ars,ha.sc (.int k) x c rfl ((Cv h1).2 rfl)⟩
   ·cases h
 | .bool ::ks,c::cs,y,rs,h,b=>by
   simp only [RD]at h;split at h
   ·rename_i x y' rs' h1 h2;injection h with h;injection h with e1 e2;subst e1 e2;obtain⟨ars,ha⟩:=I7 h2 (b+1);exact⟨ars,ha.sc .bool x c rfl ((Cv h1).2 rfl)⟩
   ·cases h
 | .str ::ks,c::cs,y,rs,h,b=>by
   simp only [RD]at h;split at h
   ·rename_i x y' rs' h1 h2;injection h with h;injection h with e1 e2;subst e1 e2;obtain⟨ars,ha⟩:=I7 h2 (b+1);exact⟨ars,ha.sc .str x c rfl ((Cv h1).2 rfl)⟩
   ·cases h
 | .u_ F::ks,c::cs,y,rs,h,b=>by
   simp only [RD]at h;split at h
   ·rename_i r ho;split at h
    ·rename_i F' l hr;split at h
     ·rename_i l' y' rs' h1 h2;injection h with h;injection h with e1 e2;subst e1 e2;obtain⟨e,rfl⟩:=JJ h1;subst e;obtain⟨ars,ha⟩:=I7 h2 (b+1);obtain⟨q1,_,d,q2,q3,q4⟩:=BK hr;have hc:=El ho;refine⟨⟨b,r,F',T.sz F',l.length,l.flatMap (T.enc F')⟩::ars,by simp [ha.ids],by simp [ha.len],fun z hz=>?_,fun pre post hl=>?_,?_,?_⟩
      ·rcases mem_cons.1 hz with rfl | hz
       ·refine⟨q1,le_refl _,by simp,?_⟩;rw [hc,Ax,Nat.sub_self];rfl
       ·obtain⟨a1,a2,a3,a4⟩:=ha.at_ z hz;grind [Ax]
      ·have:=ha.anU (pre++[.isl F' (T.sz F') l.length (l.flatMap (T.enc F'))]) post (by simp [hl]);have e1:Iv (pre++((Ax (c::cs)).map M9++post)) (⟨b,r,F',T.sz F',l.length,l.flatMap (T.enc F')⟩::ars)=Iv ((pre++[.isl F' (T.sz F') l.length (l.flatMap (T.enc F'))])++((Ax cs).map M9++post)) ars:=by unfold Iv;simp_all [Ax]
       rw [e1,this];simp only [BP,append_assoc,List.singleton_append,cons_append];rfl
      ·simp only [Ax,map_cons,Au,and_eq_true];rw [hc];exact⟨rfl,ha.pure⟩
      ·simp only [Ax,map_cons,all_cons,and_eq_true];rw [hc];exact⟨rfl,ha.noi⟩
     ·cases h
    ·cases h
   ·cases h
theorem YQ {w:World} {G:AJ}: ∀ {cs:List C} {vs:List Value},Ai w G cs vs->Ai w G (cs.map M9) vs
 | [],[],_=>by simp [Ai]
 | [],_::_,h=>by grind
 | _::_,[],h=>by simp [Ai]at h
 | c::cs,v::vs,h=>by simp only [Ai,map_cons]at h ⊢;refine⟨?_,YQ h.2⟩;cases c<;>first | exact h.1 | (simp only [M9,Af];exact h.1.one)
theorem YR {w:World} {G:AJ}: ∀ {cs:List C} {vs:List Value} {k:Nat} {c:C},Ai w G cs vs->cs[k]? =some c-> ∃ v,vs[k]? =some v/\Af w G c v
 | [],_,_,_,_,h=>by simp at h
 | _::_,[],_,_,h,_=>by simp [Ai]at h
 | d::cs,v::vs,0,c,h,hc=>by simp only [getElem?_cons_zero,injEq]at hc;subst hc;simp only [Ai]at h;grind
 | d::cs,v::vs,k+1,c,h,hc=>by simp only [Ai]at h;obtain⟨u,h1,h2⟩:=YR (k:=k) h.2 (by simpa using hc);exact⟨u,by simpa using h1,h2⟩
def dse (P:Program) (o:Oper) (st:Ag T):M (Ag T):=match o.op with
 | .store t x y=>match o.dst,st.arg [] x,st.arg [] y,KO P t with
   | none,some (.c (.rp id N i 0)),some (.agg cs),some (_,n)=>match Jz st id with
     | some ⟨E,(nn,l,none)⟩=>match RD st (T.ks E) cs with
       | some (z,rs)=>mIf (E9 id&&(Nat.beq N (T.sz E)&&(Nat.beq n (T.sz E)&&Mo rs))) (.opt (idx l i) fun _=> .opt (A1 (i=nn)) fun _=>
        .ret ((st.ac_ (T8 rs id)).abT id (.deep E (nn+1) (l.set i.toNat (T.bd E z)) none)))
       | none=> .no
     | _=> .no
   | _,_,_,_=> .no
 | _=> .no
theorem Aed {H:Az T} {P:Program} {I:World->Prop} {st:Ag T} (hw:AK H st) {o:Oper}:Yl (dse P o st) (fun d_=>(∃ H',Nx H st H' d_)/\d_.pre=st.pre/\ ∀ K:St->Prop,K d_.toSt->E4 P I o st.toSt K):=by
 unfold dse;split
 ·rename_i t x y hop;split
  ·rename_i id N i cs ag n hd hx hy ht;split
   ·rename_i E nn l hdr;split
    ·rename_i z rs hea;refine Yl.mIf fun hg=>Yl.opt fun xx hxx=>Yl.opt fun u hu=>?_;simp only [and_eq_true,beq_eq]at hg;obtain⟨g1,g2,g3,g4⟩:=hg;subst g2 g3;have hin:i=nn:=Ck hu;obtain⟨i0,i1,hxi⟩:=IE hxx;obtain⟨a1,a2,a3⟩:=Hd hw hx;obtain⟨b1,b2,b3⟩:=Hd hw hy;obtain⟨hmk,hlr,e,he1,he2,he3⟩:=BW hdr;have hE:e.toE=⟨id,some (E,T.sz E,l.length),AH T E nn 0 l,true⟩:=by unfold DE.toE;rw [he3,he2];rfl
     obtain⟨ars,ha⟩:=I7 hea (i.toNat*T.sz E);have hcl:cs.length=T.sz E:=ha.len;have aDj:=YP (x':=T.bd E z) (n:=nn) (l:=l) (k:=0) (i:=i.toNat) (by omega) (by omega);obtain⟨⟨H1,n1⟩,k2,k3⟩:=MA hw (T8 rs id);obtain⟨H2,n2⟩:=Ag.abP n1.ok id (x:= .deep E (nn+1) (l.set i.toNat (T.bd E z)) none) trivial;refine Yl.ret ⟨⟨H2,n1.trans n2⟩,k2,fun K hK Fr a w G Q hI hR=>?_⟩;have hL:st.toSt.Tz id=some e.toE:=hR.U_ (mem_map.2 ⟨e,he1,rfl⟩) (by rw [hE]) g1;have hxv:=hR.arg rfl a2;rw [a3]at hxv;simp only [DV.toV,DC.toC,Ad,Af,add_zero]at hxv;obtain⟨b,hb1,hv⟩:=hxv;have hyv:=hR.arg rfl b2;rw [b3]at hyv;simp only [DV.toV,Ad]at hyv;obtain⟨arr,hyv,hcs⟩:=hyv;have hvl:(a.eval y).cells.toList =arr.toList:=by rw [hyv];rfl
     have hlen:e.toE.cs.length=l.length*T.sz E:=by grind [JA]
     have hle:i.toNat*T.sz E+T.sz E<=e.toE.cs.length:=by rw [hlen];have:(i.toNat+1)*T.sz E<=l.length*T.sz E:=mul_le_mul_right _ (by omega);grind
     have hxl:((Ax cs).map M9).length =T.sz E:=by simp [hcl,AP]
     have hal:arr.toList.length=T.sz E:=by rw [<-hcs.length,AP,hcl]
     have hc:Ai w G ((Ax cs).map M9) (a.eval y).cells.toList :=by grind [YQ]
     obtain⟨cur,T',c1,c2,c3⟩:=hR.ady hL hb1 (off:=i.toNat*T.sz E) hc (by omega) ha.pure ha.noi;have hs:=Eg (P:=P) ht c1 (by grind) c2 (Ai.one hc);rw [hvl]at hs c2 c3;have aco: ∀ j v,arr.toList[j]? =some v->(w.setRow b (cur.toList.take (i.toNat*T.sz E)++arr.toList++cur.toList.drop (i.toNat*T.sz E+arr.toList.length)).toArray).cell? ⟨b,i.toNat*T.sz E+j,none⟩=some v:=by intro j v hj;have:=setRow_heap w b cur (cur.toList.take (i.toNat*T.sz E)++arr.toList++cur.toList.drop (i.toNat*T.sz E+arr.toList.length)).toArray T' (0,0) c1;simp only [World.cell?,this];grind
     generalize w.setRow b _=w1 at hs c3 aco;have J_:(execOp a.eval o).run P w= .ok .skip w1:=by simp_all [execOp]
     have amT: ∀ d∈st.toSt.so,d.id ≠ id->d∈(st.toSt.afU id e.toE.row (e.toE.cs.take (i.toNat*T.sz E)++(Ax cs).map M9++e.toE.cs.drop (i.toNat*T.sz E+((Ax cs).map M9).length))).so :=fun d hd' hne=>mem_map.2 ⟨d,hd',D7 hne⟩;have hL2:(st.toSt.afU id e.toE.row (e.toE.cs.take (i.toNat*T.sz E)++(Ax cs).map M9++e.toE.cs.drop (i.toNat*T.sz E+((Ax cs).map M9).length))).Tz id=some ⟨id,e.toE.row,e.toE.cs.take (i.toNat*T.sz E)++(Ax cs).map M9++e.toE.cs.drop (i.toNat*T.sz E+((Ax cs).map M9).length),true⟩:=by refine c3.U_ (mem_map.2 ⟨e.toE,mem_map.2 ⟨e,he1,rfl⟩,?_⟩) rfl g1;grind [D8]
     have htl:(e.toE.cs.take (i.toNat*T.sz E)).length =i.toNat*T.sz E:=by grind
     have hsl:(e.toE.cs.take (i.toNat*T.sz E)++(Ax cs).map M9++e.toE.cs.drop (i.toNat*T.sz E+((Ax cs).map M9).length)).length =e.toE.cs.length:=by grind
     obtain⟨G',q⟩:=c3.ai7 (p:=T8 rs id) ars hL2 hb1 (fun ar har=>by
      obtain⟨p1,p2,p3,p4⟩:=ha.at_ ar har;obtain⟨hmr,ahT⟩:=Bi p1;have hnd:=Fp p1;have amP:ar.r ≠ id:=(by grind);obtain⟨v,v1,v2⟩:=YR hcs p4;simp only [Af]at v2;refine⟨c3.aef (by grind) ahT hnd rfl,by grind,ir (by rw [<-ha.ids];grind),v,?_,v2.1⟩;grind) (by rw [ha.ids];exact HM g4) ((st.ac_ (T8 rs id)).abT id (.deep E (nn+1) (l.set i.toNat (T.bd E z)) none)).toSt (by
      have aaO:bU (id,(DX.deep E (nn+1) (l.set i.toNat (T.bd E z)) none:DX T))=⟨id,e.toE.row,Iv (e.toE.cs.take (i.toNat*T.sz E)++(Ax cs).map M9++e.toE.cs.drop (i.toNat*T.sz E+((Ax cs).map M9).length)) ars,true⟩:=by
       show (⟨id,some (E,T.sz E,(l.set i.toNat (T.bd E z)).length),AH T E (nn+1) 0 (l.set i.toNat (T.bd E z)),true⟩:AB)=_;rw [append_assoc,ha.anU _ _ htl,hxl, <-aDj];simp only [hE,length_set];congr 1;have:T.abz E (T.bd E z)=BP T (T.ks E) z:=by rw [Bl.abz,T.afT]
       rw [this]
      have hB:=VA (ns:=ars.map (·.r)) hw (p:=T8 rs id) (fun n hn=>by rw [ha.ids]at hn;exact W5 hn) n2.ok aaO;exact⟨hB.len,hB.tm,hB.arW,hB.gh,fun x hx=>(hB.so x hx).imp (fun q=>q) (by grind),hB.nd,hB.pre⟩)
     exact FA J_ (by rw [hd];exact⟨_,G',hK,q⟩)
    ·exact Yl.no
   ·exact Yl.no
  ·exact Yl.no
 ·exact Yl.no
end Go.PL
set_option linter.all false
namespace Go.PL
open Go Go.RowKit
variable {T:Bl}
def RE (st:Ag T):Option Operand->Option (Option Int)
 | none=>some none
 | some x=>match st.arg [] x with
   | some (.c (.k (.int _) i))=>some (some i)
   | _=>none
theorem Hi {H:Az T} {st:Ag T} (hw:AK H st) {x:Option Operand} {i:Option Int} (h:RE st x=some i) {F:Fr} {a:Act} {w:World} {G:AJ} (hR:R F st.toSt a w G): ∃ k:IntKind,x.map a.eval=i.map (Value.int k):=by
 cases x with
 | none=>simp only [RE,injEq]at h;subst h;simp_all
 | some x=>
   simp only [RE]at h;split at h
   ·rename_i k j hx;injection h with h;subst h;obtain⟨a1,a2,a3⟩:=Hd hw hx;have hxv:=hR.arg rfl a2;rw [a3]at hxv;simp only [DV.toV,DC.toC,Bk,Ad,Af]at hxv;grind
   ·cases h
theorem sD {P:Program} (len cap:Nat) (k1 k2 k3:IntKind) (lo hi mx:Option Int) (hm:mx.isSome=true->hi.isSome=true) (h1:0<=lo.getD 0) (h2:lo.getD 0<=hi.getD len) (h3:hi.getD len<=mx.getD cap) (h4:mx.getD cap<=cap) (w:World):
 (Instr.sliceBounds true len cap (lo.map (Value.int k1)) (hi.map (Value.int k2)) (mx.map (Value.int k3))).run P w= .ok ((lo.getD 0).toNat,(hi.getD len).toNat,(mx.getD cap).toNat) w:=by
 have e1: ∀ code,mx.isSome=true->(Instr.sliceBound (.int k3 (mx.getD cap)) cap code).run P w= .ok (mx.getD cap).toNat w:=(by grind [aac]);have e2: ∀ code,(Instr.sliceBound (.int k2 (hi.getD len)) (mx.getD cap).toNat code).run P w= .ok (hi.getD len).toNat w:=(by grind [aac]);have e3: ∀ code,(Instr.sliceBound (.int k1 (lo.getD 0)) (hi.getD len).toNat code).run P w= .ok (lo.getD 0).toNat w:=(by grind [aac]);cases lo<;>cases hi<;>cases mx<;>simp only [getD_some,getD_none,Option.isSome_some,Option.isSome_none,Bool.false_eq_true,forall_const,imp_self,Int.toNat_natCast]at hm e1 e2 e3 ⊢ <;>simp [Instr.sliceBounds,e1,e2,e3]
 all_goals first | rfl | (exact absurd hm (by simp))
def Aa4 (P:Program) (o:Oper) (md:Bool) (st:Ag T):M (Ag T):=match o.op with
 | .slice t x lo hi mx=>match o.dst,st.arg [] x,Dj P t with
   | some d,some (.c (.c (.n_ id))),some (_,n)=>match DA st id,RE st lo,RE st hi,RE st mx with
     | some ⟨E,l⟩,some lo',some hi',some mx'=>mIf (Nat.beq n (T.sz E)&&(mx'.isNone||hi'.isSome)) (match md with
       | true=>mIf mx'.isNone (.opt (A1 (0<=lo'.getD 0/\lo'.getD 0<=hi'.getD (l.length:Nat)/\hi'.getD (l.length:Nat)<=(l.length:Nat)/\0<l.length)) fun _=> .ret (st.put (some d) (.c (.bs id E (lo'.getD 0) (hi'.getD (l.length:Nat) - lo'.getD 0)))))
       | false=> .opt (A1 (0<=lo'.getD 0/\lo'.getD 0<=hi'.getD (l.length:Nat)/\hi'.getD (l.length:Nat)<=mx'.getD (l.length:Nat)/\mx'.getD (l.length:Nat)<=(l.length:Nat))) fun _=> .ret (st.put (some d) (.c (.c .any))))
     | _,_,_,_=> .no
   | some d,some (.c (.bs id E0 o0 n0)),some (_,n)=>match DA st id,RE st lo,RE st hi,RE st mx with
     | some ⟨E,l⟩,some lo',some hi',some none=>mIf (Nat.beq n (T.sz E)&&Nat.beq E0 E) (.opt (A1 (o0=0/\0<=lo'.getD 0/\lo'.getD 0<=hi'.getD (n0.toNat:Nat)/\hi'.getD (n0.toNat:Nat)<=(l.length:Nat)/\0<l.length)) fun _=> .ret (st.put (some d) (.c (.bs id E (lo'.getD 0) (hi'.getD (n0.toNat:Nat) - lo'.getD 0)))))
     | _,_,_,_=> .no
   | _,_,_=> .no
 | _=> .no
theorem R.adr {F:Fr} {st:Ag T} {a:Act} {w:World} {G:AJ} (hR:R F st.toSt a w G) {id:Ah} {E:Nat} {l:List (T.den E)} (h:DA st id=some ⟨E,l⟩): ∃ v,G.own id=some v/\((∃ p,v= .slice p 0 0/\l.length=0)\/
 ∃ b cap cur,v= .slice (some ⟨b,0,none⟩) l.length cap/\G.y_ id=some b/\w.heap[b]? =some (.cells cur E (0,0))/\l.length<=cap/\cap<=maxLen/\cur.size=cap*T.sz E/\Am w G (l.flatMap (T.enc E)) b 0):=by
 obtain⟨h1,_⟩:=BK h;obtain⟨hm,_⟩:=Bi h1;have hE:=hR.store _ hm;unfold Ba at hE;obtain⟨_,v,e1,e2⟩:=hE;refine⟨v,e1,?_⟩;rcases e2 with ⟨p,q1,q2,_⟩ | ⟨b,cap,cur,q1,q2,q3,q4,q5,q6,q7⟩
 ·grind
 ·exact .inr ⟨b,cap,cur,q1,q2,q3,q4,q5,q6,q7⟩
theorem sE {H:Az T} {P:Program} {I:World->Prop} {st:Ag T} (hw:AK H st) {o:Oper} {md:Bool}:Yl (Aa4 P o md st) (fun d_=>(∃ H',Nx H st H' d_)/\d_.pre=st.pre/\Yld P I o st.toSt d_.toSt):=by
 unfold Aa4;split
 ·rename_i t x lo hi mx hop;split
  ·rename_i d id e n hd hx ht;split
   ·rename_i E l lo' hi' mx' hr q1 q2 q3;refine Yl.mIf fun hg=>?_;simp only [and_eq_true,beq_eq,Bool.or_eq_true]at hg;obtain⟨g1,g2⟩:=hg;obtain⟨a1,a2,a3⟩:=Hd hw hx;obtain⟨hu,inf,hi1,hsz⟩:=DF ht;have hm:mx'.isSome=true->hi'.isSome=true:=fun q=>by
     rcases g2 with g2 | g2
     all_goals simp_all
    have run: ∀ {F:Fr} {a:Act} {w:World} {G:AJ},R F st.toSt a w G-> ∀ len cap (ad:Option Addr),a.eval x= .slice ad len cap->0<=lo'.getD 0->lo'.getD 0<=hi'.getD len->hi'.getD len<=mx'.getD cap->mx'.getD cap<=cap-> ∀ w',(execOp a.eval o).run P w'= .ok (.value (.slice (if(mx'.getD cap).toNat =(lo'.getD 0).toNat then ad else ad.map (·.add ((lo'.getD 0).toNat *n))) ((hi'.getD len).toNat - (lo'.getD 0).toNat) ((mx'.getD cap).toNat - (lo'.getD 0).toNat))) w':=by intro F a w G hR len cap ad hv b1 b2 b3 b4 w';obtain⟨k1,e1⟩:=Hi hw q1 hR;obtain⟨k2,e2⟩:=Hi hw q2 hR;obtain⟨k3,e3⟩:=Hi hw q3 hR;have hs:=sD (P:=P) len cap k1 k2 k3 lo' hi' mx' hm b1 b2 b3 b4 w';simp [execOp,hop,e1,e2,e3,hv,Instr.sliceAt,Instr.slice,Sem.run_bind,run_underlying hu,hs,sizeOf,typeInfo,program,Sem.run,hi1,hsz]
    split
    ·refine Yl.mIf fun hmx=>Yl.opt fun u hn=>Yl.ret ?_;have hn:=Ck hn;have hmx:mx'=none:=by simp_all
     subst hmx;obtain⟨H1,n1⟩:=Ag.aaL hw (some d) (v:= .c (.bs id E (lo'.getD 0) (hi'.getD (l.length:Nat) - lo'.getD 0))) (by grind [DV.ok,DC.ok]);refine⟨⟨H1,n1⟩,AW _ _ _,fun Fr a w G hI hR=>?_⟩;have hxv:=hR.arg rfl a2;rw [a3]at hxv;simp only [DV.toV,DC.toC,Ad,Af]at hxv;obtain⟨v,v1,v2⟩:=hR.adr hr;rw [hxv.1]at v1;injection v1 with v1;rcases v2 with ⟨p,_,v2⟩ | ⟨b,cap,cur,rfl,v3,v4,v5,v6,v7,v8⟩
     ·omega
     ·have hs:=run hR l.length cap _ v1 hn.1 hn.2.1 (by simp only [getD_none];omega) (by simp);refine⟨_,G,fun w' _=>hs w',?_⟩;rw [hd,Ag.r_];refine hR.put ?_;simp only [DV.toV,DC.toC,Ad,Af];refine⟨b,l.length,cap,(if cap=(lo'.getD 0).toNat then 0 else(lo'.getD 0).toNat *n),cap - (lo'.getD 0).toNat,by grind,?_,?_,by omega,fun hlt=>?_⟩
      ·simp only [getD_none,Int.toNat_natCast];grind [Addr.add_mid]
      all_goals grind
    ·refine Yl.opt fun u hn=>Yl.ret ?_;have hn:=Ck hn;obtain⟨H1,n1⟩:=Ag.aaL hw (some d) (v:= .c (.c .any)) (by simp only [DV.ok,DC.ok]);refine⟨⟨H1,n1⟩,AW _ _ _,fun Fr a w G hI hR=>?_⟩;have hxv:=hR.arg rfl a2;rw [a3]at hxv;simp only [DV.toV,DC.toC,Ad,Af]at hxv;obtain⟨v,v1,v2⟩:=hR.adr hr;rw [hxv.1]at v1;injection v1 with v1;have hsl: ∃ ad cap,a.eval x= .slice ad l.length cap/\l.length<=cap:=by grind
     obtain⟨ad,cap,hsl,hlc⟩:=hsl;have hs:=run hR l.length cap ad hsl hn.1 hn.2.1 (by
      cases mx'<;>grind) (by
      cases mx'<;>grind)
     refine⟨_,G,fun w' _=>hs w',?_⟩;rw [hd,Ag.r_];refine hR.put ?_;simp only [DV.toV,DC.toC,Ad,Af];rfl
   ·exact Yl.no
  ·rename_i d id E0 o0 n0 e n hd hx ht;split
   ·rename_i E l lo' hi' hr q1 q2 q3;refine Yl.mIf fun hg=>Yl.opt fun u hn=>Yl.ret ?_;simp only [and_eq_true,beq_eq]at hg;obtain⟨g1,g2⟩:=hg;subst g2;have hn:=Ck hn;obtain⟨a1,a2,a3⟩:=Hd hw hx;simp only [DV.ok,DC.ok]at a1;obtain⟨hu,inf,hi1,hsz⟩:=DF ht;obtain⟨H1,n1⟩:=Ag.aaL hw (some d) (v:= .c (.bs id E0 (lo'.getD 0) (hi'.getD (n0.toNat:Nat) - lo'.getD 0))) (by grind [DV.ok,DC.ok]);refine⟨⟨H1,n1⟩,AW _ _ _,fun Fr a w G hI hR=>?_⟩;have hxv:=hR.arg rfl a2;rw [a3]at hxv;simp only [DV.toV,DC.toC,Ad,Af]at hxv;obtain⟨b1,ajp,akV,o1,acy,x1,x2,x3,x4,x5⟩:=hxv;obtain⟨v,v1,v2⟩:=hR.adr hr;rw [x1]at v1;injection v1 with v1;rcases v2 with ⟨p,_,v2⟩ | ⟨b,cap,cur,q,v3,v4,v5,v6,v7,v8⟩
    ·omega
    ·rw [q]at v1;injection v1 with z1 z2 z3;injection z1 with z1;injection z1 with z1;subst z1 z2 z3;have ho1:o1=0:=by grind
     subst ho1;have hc1:acy=akV:=by grind
     subst hc1;obtain⟨k1,e1⟩:=Hi hw q1 hR;obtain⟨k2,e2⟩:=Hi hw q2 hR;obtain⟨k3,e3⟩:=Hi hw q3 hR;have hs:=fun w'=>sD (P:=P) n0.toNat acy k1 k2 k3 lo' hi' none (by simp) hn.2.1 hn.2.2.1 (by simp only [getD_none];omega) (by simp) w';refine⟨.slice (if acy=(lo'.getD 0).toNat then some ⟨b1,0,none⟩else(some (⟨b1,0,none⟩:Addr)).map (·.add ((lo'.getD 0).toNat *n))) ((hi'.getD (n0.toNat:Nat)).toNat - (lo'.getD 0).toNat) (acy - (lo'.getD 0).toNat),G,fun w' _=>?_,?_⟩
     ·have hsw:=hs w';simp only [getD_none,Int.toNat_natCast,Option.map_none]at hsw e3;simp [execOp,hop,e1,e2,e3,x2,Instr.sliceAt,Instr.slice,Sem.run_bind,run_underlying hu,hsw,sizeOf,typeInfo,program,Sem.run,hi1,hsz]
     ·rw [hd,Ag.r_];refine hR.put ?_;simp only [DV.toV,DC.toC,Ad,Af];refine⟨b1,l.length,acy,(if acy=(lo'.getD 0).toNat then 0 else(lo'.getD 0).toNat *n),acy - (lo'.getD 0).toNat,x1,?_,?_,by omega,fun hlt=>?_⟩
      ·grind [Addr.add_mid]
      all_goals grind
   ·exact Yl.no
  ·exact Yl.no
 ·exact Yl.no
end Go.PL
set_option linter.all false
namespace Go.PL
open Go Go.RowKit
variable {T:Bl}
theorem YS {α:Type} {f:α->List C} {n:Nat} (hf: ∀ x,(f x).length =n) (l:List α):(l.flatMap f).length =l.length*n:=Dp hf l
theorem R.ahL {F:Fr} {st:Ag T} {H:Az T} {a:Act} {w:World} {G:AJ} (hR:R F st.toSt a w G) (hw:AK H st) {id:Ah} {E:Nat} {l m:List (T.den E)} (h:DA st id=some ⟨E,l⟩) {b:Nat} (hb:G.y_ id=some b) {off:Nat} {xs:List C} {vs:List Value} (hx:Ai w G xs vs) (hp:Au xs=true) (hml:m.length=l.length)
 (hm:(l.flatMap (T.enc E)).take off++xs++(l.flatMap (T.enc E)).drop (off+xs.length)=m.flatMap (T.enc E)) (acX:off+xs.length<=l.length*T.sz E):
 ∃ cur T',w.heap[b]? =some (.cells cur T' (0,0))/\off+vs.length<=cur.size/\R F (st.abT id (.row E m)).toSt a (w.setRow b (cur.toList.take off++vs++cur.toList.drop (off+vs.length)).toArray) G:=by
 obtain⟨h1,_,e,e1,e2,e3⟩:=BK h;obtain⟨cur,T',c1,c2,c3⟩:=hR.stored h1 hb (off:=off) hx (by grind [YS,AV]);refine⟨cur,T',c1,c2,?_⟩;have:=Ag.afM hw e1 e2 (x:= .row E m) (cs:=m.flatMap (T.enc E)) (q:=Au xs) (by
  rw [DE.toE_row e3,e2,hp];show (⟨id,some (E,T.sz E,l.length),m.flatMap (T.enc E),true&&true⟩:AB)=⟨id,some (E,T.sz E,m.length),m.flatMap (T.enc E),true⟩;rw [hml];rfl)
 grind
def Aee (P:Program) (o:Oper) (st:Ag T):M (Ag T):=match o.op with
 | .call c=>match c.callee,c.args.toList,c.argTypes.toList with
   | .builtin .clear,[x],[t]=>match st.arg [] x,Dj P t with
     | some (.c (.bs id E0 o0 n0)),some (e,n)=>match DA st id,Qt P e with
       | some ⟨E,l⟩,some z=>match wj false E z with
         | some z0=>mIf (Nat.beq n (T.sz E)&&(Nat.beq z.length n&&(Nat.beq E0 E&&Nat.blt 0 n))) (.opt (A1 (o0+n0<=(l.length:Nat)/\0<l.length)) fun _=>
          .ret ((st.abT id (.row E (l.take o0.toNat++(List.replicate n0.toNat z0++l.drop (o0.toNat+n0.toNat))))).put o.dst (.tup [])))
         | none=> .no
       | _,_=> .no
     | _,_=> .no
   | _,_,_=> .no
 | _=> .no
theorem QH {α:Type} {f:α->List C} (z:α): ∀ n:Nat,(List.replicate n z).flatMap f=Ca (f z) n
 | 0=>by simp [Ca]
 | n+1=>by rw [List.replicate_succ,flatMap_cons,QH z n,U4]
theorem Aa5 {H:Az T} {P:Program} {I:World->Prop} {st:Ag T} (hw:AK H st) {o:Oper}:Yl (Aee P o st) (fun d_=>(∃ H',Nx H st H' d_)/\d_.pre=st.pre/\ ∀ K:St->Prop,K d_.toSt->E4 P I o st.toSt K):=by
 unfold Aee;split
 ·rename_i c hop;split
  ·rename_i x t ae5 acY apY;split
   ·rename_i id E0 o0 n0 e n hx ht;split
    ·rename_i E l z hr hz;split
     ·rename_i z0 hz0;refine Yl.mIf fun hg=>Yl.opt fun u hn=>Yl.ret ?_;simp only [and_eq_true,beq_eq,Nat.blt_eq]at hg;obtain⟨g1,g2,g3,g4⟩:=hg;subst g1 g3;have hn:=Ck hn;obtain⟨a1,a2,a3⟩:=Hd hw hx;simp only [DV.ok,DC.ok]at a1;obtain⟨hu,inf,hi1,hsz⟩:=DF ht;obtain⟨z1,z2⟩:=HU hz;obtain⟨aK_,zv,hi2,hzv,hzc⟩:=GZ z1;rw [hi1]at hi2;injection hi2 with hi2;subst hi2;have hzE:Ax z=T.enc E0 z0:=(HO hz0).2 rfl;obtain⟨H1,n1⟩:=Ag.abP hw id (x:= .row E0 (l.take o0.toNat++(List.replicate n0.toNat z0++l.drop (o0.toNat+n0.toNat)))) trivial;obtain⟨H2,n2⟩:=Ag.Th n1 o.dst (v:= .tup []) (by simp [DV.ok,CL]);refine⟨⟨H2,n2⟩,by rw [AW];rfl,fun K hK Fr a w G Q hI hR=>?_⟩;have hxv:=hR.arg rfl a2;rw [a3]at hxv;simp only [DV.toV,DC.toC,Ad,Af]at hxv;obtain⟨b1,ajp,akV,o1,acy,x1,x2,x3,x4,x5⟩:=hxv;obtain⟨v,v1,v2⟩:=hR.adr hr;rw [x1]at v1;injection v1 with v1;rcases v2 with ⟨p,_,v2⟩ | ⟨b,cap,cur,q,v3,v4,v5,v6,v7,v8⟩
      ·omega
      rw [q]at v1;injection v1 with y1 y2 y3;injection y1 with y1;injection y1 with y1;subst y1 y2 y3;have hzz:Ai w G (Ca (T.enc E0 z0) n0.toNat) (Builtin.zeroCells zv.cells n0.toNat).toList :=by have hzl:=Fw (w:=w) (G:=G) hzc;rw [hzE]at hzl;exact LA hzl (by rw [AV];exact g4) n0.toNat
      have hlen:(Ca (T.enc E0 z0) n0.toNat).length =n0.toNat*T.sz E0:=by rw [<-QH,YS (fun y=>AV E0 y),List.length_replicate]
      have hle:o0.toNat*T.sz E0+n0.toNat*T.sz E0<=l.length*T.sz E0:=by rw [<-add_mul];exact mul_le_mul_right _ (by omega)
      obtain⟨adS,T',c1,c2,c3⟩:=R.ahL (m:=l.take o0.toNat++(List.replicate n0.toNat z0++l.drop (o0.toNat+n0.toNat))) hR hw hr v3 (off:=o0.toNat*T.sz E0) hzz (UW (by rw [<-hzE];have:=Dd (T:=T) (.s E0) z0;grind [Eo,V.pure]) _) (by simp;omega) (by
       rw [hlen,flatMap_append,flatMap_append,QH, <-G7 (fun y=>AV E0 y), <-IZ (fun y=>AV E0 y),append_assoc,add_mul]) (by grind)
      have ea:c.args= #[x]:=by grind
      have et:c.argTypes= #[t]:=by grind
      have hzr:(zeroValue e).run P w= .ok zv w:=by simp_all [zeroValue,typeInfo]
      have adj:=Ai.one hzz;by_cases h0:n0.toNat=0
      ·have arL:(Builtin.zeroCells zv.cells n0.toNat).toList =[]:=by rw [h0];simp [Builtin.zeroCells]
       have J_:(execOp a.eval o).run P w= .ok (.value (.tuple #[])) w:=by simp_all [execOp,resolve,invoke,builtin,Builtin.clear_,run_underlying]
       rw [arL]at c3;have aug:w.setRow b1 (adS.toList.take (o0.toNat*T.sz E0)++([]:List Value)++adS.toList.drop (o0.toNat*T.sz E0+([]:List Value).length)).toArray =w:=by simp only [append_nil,List.length_nil,add_zero,List.take_append_drop,Array.toArray_toList];exact setRow_self w b1 adS T' (0,0) c1
       rw [aug]at c3;exact AO J_ ⟨_,G,hK,by rw [Ag.r_];exact c3.put (by simp only [DV.toV,Be,Ad,Aw];grind)⟩
      ·have ho1:o1=o0.toNat*T.sz E0:=x5 (by omega);have hst:=run_storeCells_at P b1 (o0.toNat*T.sz E0) T' (Builtin.zeroCells zv.cells n0.toNat).toList 0 adS w c1 (by grind) adj;simp only [add_zero]at hst;generalize hw1:w.setRow b1 _=w1 at hst c3;have J_:(execOp a.eval o).run P w= .ok (.value (.tuple #[])) w1:=by have h0':n0.toNat ≠ 0:=h0;obtain⟨k,hk⟩:=Nat.exists_eq_succ_of_ne_zero h0';rw [hk]at hst;simp [execOp,hop,resolve,ae5,ea,et,invoke,builtin,Builtin.clear_,Sem.run_bind,run_underlying hu,x2,hk,hzr,ho1,hst]
       exact AO J_ ⟨_,G,hK,by rw [Ag.r_];exact c3.put (by simp only [DV.toV,Be,Ad,Aw];grind)⟩
     ·exact Yl.no
    ·exact Yl.no
   ·exact Yl.no
  ·exact Yl.no
 ·exact Yl.no
def Aef (P:Program) (o:Oper) (st:Ag T):M (Ag T):=match o.op with
 | .call c=>match o.dst,c.callee,c.args.toList,c.argTypes.toList with
   | some d, .builtin .append,[x,y],[t,t']=>match st.arg [] x,st.arg [] y,Dj P t with
     | some (.c (.bs id E0 o0 i)),some (.c (.bs id2 E2 j m)),some (e,n)=>match DA st id with
       | some ⟨E,l⟩=>mIf ((Bc id2 id&&(Nat.beq t t'&&Nat.beq e E))&&(Nat.beq n (T.sz E)&&(Nat.beq E0 E&&Nat.beq E2 E))) (.opt (A1 (o0=0/\i+m<=(l.length:Nat)/\j+m<=(l.length:Nat)/\0<l.length)) fun _=>
        .ret ((st.abT id (.row E (l.take i.toNat++((l.drop j.toNat).take m.toNat++l.drop (i.toNat+m.toNat))))).put (some d) (.c (.bs id E 0 (i+m)))))
       | none=> .no
     | _,_,_=> .no
   | _,_,_,_=> .no
 | _=> .no
theorem Aa6 {H:Az T} {P:Program} {I:World->Prop} {st:Ag T} (hw:AK H st) {o:Oper}:Yl (Aef P o st) (fun d_=>(∃ H',Nx H st H' d_)/\d_.pre=st.pre/\ ∀ K:St->Prop,K d_.toSt->E4 P I o st.toSt K):=by
 unfold Aef;split
 ·rename_i c hop;split
  ·rename_i d x y t t' hd ae5 acY apY;split
   ·rename_i id E0 o0 i id2 E2 j m e n hx hy ht;split
    ·rename_i E l hr;refine Yl.mIf fun hg=>Yl.opt fun u hn=>Yl.ret ?_;simp only [and_eq_true,beq_eq]at hg;obtain⟨⟨g0,gt,ge⟩,g1,g2,g3⟩:=hg;have g0:=(AQ.1 g0).symm;subst g0 gt g1 g2 g3 ge;have hn:=Ck hn;obtain⟨a1,a2,a3⟩:=Hd hw hx;obtain⟨b1,b2,b3⟩:=Hd hw hy;simp only [DV.ok,DC.ok]at a1 b1;obtain⟨hu,inf,hi1,hsz⟩:=DF ht;obtain⟨H1,n1⟩:=Ag.abP hw id (x:= .row e (l.take i.toNat++((l.drop j.toNat).take m.toNat++l.drop (i.toNat+m.toNat)))) trivial;obtain⟨H2,n2⟩:=Ag.Th n1 (some d) (v:= .c (.bs id e 0 (i+m))) (by grind [DV.ok,DC.ok]);refine⟨⟨H2,n2⟩,by rw [AW];rfl,fun K hK Fr a w G Q hI hR=>?_⟩;have hxv:=hR.arg rfl a2;rw [a3]at hxv;simp only [DV.toV,DC.toC,Ad,Af]at hxv;obtain⟨c1,ajp,akV,o1,acy,x1,x2,x3,x4,x5⟩:=hxv;have hyv:=hR.arg rfl b2;rw [b3]at hyv;simp only [DV.toV,DC.toC,Ad,Af]at hyv;obtain⟨c1',aHn,aIc,o2,ar3,y1,y2,y3,y4,y5⟩:=hyv;rw [x1]at y1;injection y1 with y1;injection y1 with w1 w2 w3;injection w1 with w1;injection w1 with w1;subst w1 w2 w3;obtain⟨v,v1,v2⟩:=hR.adr hr;rw [x1]at v1;injection v1 with v1;rcases v2 with ⟨p,_,v2⟩ | ⟨b,cap,cur,q,v3,v4,v5,v6,v7,v8⟩
     ·omega
     rw [q]at v1;injection v1 with k1 k2 k3;injection k1 with k1;injection k1 with k1;subst k1 k2 k3;have ho1:o1=0:=by grind
     have hc1:acy=akV:=by grind
     subst ho1 hc1;obtain⟨us,u1,u2⟩:=v8.list;have hul:us.length=l.length*T.sz e:=by rw [<-u1.length,YS (fun y=>AV e y)]
     have hmv:Ai w G (((l.drop j.toNat).take m.toNat).flatMap (T.enc e)) ((us.drop (j.toNat*T.sz e)).take (m.toNat*T.sz e)):=by rw [<-G7 (fun y=>AV e y), <-IZ (fun y=>AV e y)];exact(u1.drop _).take _
     have hjm:j.toNat*T.sz e+m.toNat*T.sz e<=l.length*T.sz e:=by rw [<-add_mul];exact mul_le_mul_right _ (by omega)
     have him:i.toNat*T.sz e+m.toNat*T.sz e<=l.length*T.sz e:=by rw [<-add_mul];exact mul_le_mul_right _ (by omega)
     have hnl:((us.drop (j.toNat*T.sz e)).take (m.toNat*T.sz e)).length =m.toNat*T.sz e:=by rw [List.length_take,List.length_drop];omega
     have hxl:(((l.drop j.toNat).take m.toNat).flatMap (T.enc e)).length =m.toNat*T.sz e:=by rw [hmv.length,hnl]
     have alo:Au (((l.drop j.toNat).take m.toNat).flatMap (T.enc e))=true:=Cg _ (fun y=>by have:=Dd (T:=T) (.s e) y;simpa only [Eo,V.pure] using this) _;obtain⟨adS,T',s1,s2,s3⟩:=R.ahL (m:=l.take i.toNat++((l.drop j.toNat).take m.toNat++l.drop (i.toNat+m.toNat))) hR hw hr v3 (off:=i.toNat*T.sz e) hmv alo (by simp;omega) (by
      rw [hxl,flatMap_append,flatMap_append, <-G7 (fun y=>AV e y) l i.toNat, <-IZ (fun y=>AV e y) l (i.toNat+m.toNat),append_assoc,add_mul]) (by grind)
     rw [v4]at s1;injection s1 with s1;injection s1 with s1 s1' _;subst s1 s1';have avO: ∀ jj u',((us.drop (j.toNat*T.sz e)).take (m.toNat*T.sz e))[jj]? =some u'->w.cell? ((⟨c1,o2,none⟩:Addr).add jj)=some u':=by
      intro jj u' hj;have hlt:jj<m.toNat*T.sz e:=by grind
      have hm0:0<m.toNat:=by grind
      have ho2:o2=j.toNat*T.sz e:=y5 (by omega);rw [List.getElem?_take,if_pos hlt,List.getElem?_drop]at hj;have:=u2 _ _ hj;simp_all [Addr.add_mid]
     have aui:=run_append_room (P:=P) w t o.type e inf hu hi1 c1 i.toNat acy cur v4 ⟨c1,o2,none⟩ m.toNat ar3 ((us.drop (j.toNat*T.sz e)).take (m.toNat*T.sz e)) (by grind) avO (Ai.one hmv) (by omega) (by grind);rw [hsz]at aui;have ea:c.args= #[x,y]:=by grind
     have et:c.argTypes= #[t,t]:=by grind
     generalize w.setRow c1 _=w1 at aui s3;have J_:(execOp a.eval o).run P w= .ok (.value (.slice (some ⟨c1,0,none⟩) (i.toNat+m.toNat) acy)) w1:=by simp_all [execOp,resolve,invoke,builtin]
     refine AO J_ ⟨_,G,hK,?_⟩;rw [hd,Ag.r_];refine s3.put ?_;simp only [DV.toV,DC.toC,Ad,Af];exact⟨c1,l.length,acy,0,acy,x1,by rw [show (i+m).toNat =i.toNat+m.toNat by omega],by omega,by simp,fun _=>by simp⟩
    ·exact Yl.no
   ·exact Yl.no
  ·exact Yl.no
 ·exact Yl.no
end Go.PL
set_option linter.all false
namespace Go.PL
open Go Go.RowKit
variable {T:Bl}
def dtr (d:Nat) (st:Ag T):M (Ag T):=match st.get d with
 | .c (.bs id E0 o n)=>match DA st id with
   | some ⟨E,l⟩=>mIf (Nat.beq E0 E) (.opt (A1 (o=0/\n<=(l.length:Nat)/\0<l.length)) fun _=>match st.new id (.row E (l.take n.toNat))with
     | some s=> .ret (s.put (some d) (.c (.c (.n_ id))))
     | none=> .no)
   | none=> .no
 | _=> .no
theorem Aeg {H:Az T} {st:Ag T} (hw:AK H st) {d:Nat}:Yl (dtr d st) (fun d_=>(∃ H',Nx H st H' d_)/\d_.pre=st.pre/\Wk st.toSt d_.toSt):=by
 unfold dtr;split
 ·rename_i id E0 o n hs;split
  ·rename_i E l hr;refine Yl.mIf fun hg=>Yl.opt fun u hn=>?_;have hg:=eq_of_beq_eq_true hg;subst hg;have hn:=Ck hn;have hok:=Ag.ahV hw d;rw [hs]at hok;simp only [DV.ok,DC.ok]at hok;split
   ·rename_i s aaO;refine Yl.ret ?_;obtain⟨⟨H1,n1⟩,h2,h3⟩:=Ag.acW hw (x:= .row E0 (l.take n.toNat)) trivial aaO;obtain⟨H2,n2⟩:=Ag.Th n1 (some d) (v:= .c (.c (.n_ id))) (by simp only [DV.ok,DC.ok]);refine⟨⟨H2,n2⟩,by rw [AW];exact h3,fun F a w G hR=>?_⟩;have hsl:=hR.M_ d;have hge:=st.abF d;rw [hs]at hge;have hsl:Ad w G (st.toSt.get d) (a.tmps.getD d Go.undef):=hsl;rw [hge]at hsl;simp only [DV.toV,DC.toC,Ad,Af]at hsl;obtain⟨b1,ajp,akV,o1,acy,x1,x2,x3,x4,x5⟩:=hsl;obtain⟨v,v1,v2⟩:=hR.adr hr;rw [x1]at v1;injection v1 with v1;rcases v2 with ⟨p,_,v2⟩ | ⟨b,cap,cur,q,v3,v4,v5,v6,v7,v8⟩
    ·omega
    rw [q]at v1;injection v1 with k1 k2 k3;injection k1 with k1;injection k1 with k1;subst k1 k2 k3;have ho1:o1=0:=by grind
    have hc1:acy=akV:=by grind
    subst ho1 hc1;have alo:Au ((l.take n.toNat).flatMap (T.enc E0))=true:=Cg _ (fun y=>by have:=Dd (T:=T) (.s E0) y;grind [Eo,V.pure]) _;have hlt:b1<w.heap.size:=(by grind);have aiL:=hR.set ⟨id,some (E0,T.sz E0,(l.take n.toNat).length),(l.take n.toNat).flatMap (T.enc E0),true⟩ (some b1) (some (a.tmps.getD d Go.undef)) ⟨rfl,rfl,rfl⟩ (le_refl _) (fun _ _ _=>rfl) (fun _ _ _=>rfl) (fun b' hb'=>by
     injection hb' with hb';subst hb';exact⟨.inr ⟨v3,B7.same rfl⟩,hlt⟩) (fun _=>alo) (by
     refine Jk (AB.ad0 _ _) ⟨?_,a.tmps.getD d Go.undef,by simp [B0,AB.X_], .inr ⟨b1,acy,cur,?_,by simp [B0,AB.X_],v4,?_,v6,v7,?_⟩⟩
     ·show ((l.take n.toNat).flatMap (T.enc E0)).length =_;grind [YS,AV]
     ·grind
     ·grind
     ·show Am w (B0 F G id (some b1) (some (a.tmps.getD d Go.undef))) ((l.take n.toNat).flatMap (T.enc E0)) b1 0;have hk:=hR.keeps id (some b1) (some (a.tmps.getD d Go.undef)) (by grind) (fun _ _ _=>rfl) (fun b' hb'=>by injection hb' with hb';subst hb';exact .inr ⟨v3,B7.same rfl⟩);have:=v8.take (n.toNat*T.sz E0);rw [G7 (fun y=>AV E0 y)]at this;exact Am.mono hk _ _ _ (fun i hi=>absurd (show BO i ((l.take n.toNat).flatMap (T.enc E0))=true from hi) (by rw [AU i _ alo];simp)) (fun _=>rfl) this)
    have hl:=aiL.less h2;refine⟨B0 F G id (some b1) (some (a.tmps.getD d Go.undef)),?_⟩;rw [Ag.r_];exact hl.agm (by simp only [DV.toV,DC.toC,Ad,Af];exact⟨by simp [B0],by rw [x2];rfl⟩)
   ·exact Yl.no
  ·exact Yl.no
 ·exact Yl.no
def dpn (r:Ah) (st:Ag T):Option (Ag T):=match DA st r with
 | some ⟨E,l⟩=>some (Bm [(1000003::r, .deep E 0 l none)] (st.Ti (fun i=>match Bc i r with | true=>true | false=>match Bc i (1000003::r)with | true=>true | false=>KX.aeS (1000003::r) i)))
 | none=>none
def ddp (d:Nat) (st:Ag T):M (Ag T):=match st.get d with
 | .c x=>match Kp x with
   | some r=>match dpn r st with
     | some s=> .ret (s.put (some d) (.c (.c (.n_ (1000003::r)))))
     | none=> .no
   | none=> .no
 | _=> .no
theorem YT (E:Nat): ∀ (k:Int) (l:List (T.den E)),0<=k->AH T E 0 k l=l.flatMap (T.enc E)
 | _,[],_=>rfl
 | k,x::l,h=>by rw [AH,if_neg (by omega),YT E (k+1) l (by omega),flatMap_cons]
theorem Aa7 (E:Nat) (x:T.den E):(T.enc E x).all ov=true:=by
 rw [<-T.abw];have: ∀ (ks:List Kd) (y:DK T.den ks),(BD T.enc ks y).all ov=true:=by
  intro ks;induction ks with
  | nil=>intro _;rfl
  | cons k ks ih=>
    intro y;simp only [BD,all_cons,and_eq_true];exact⟨by cases k<;>rfl,ih y.2⟩
 grind
theorem lN {H:Az T} {st s:Ag T} (hw:AK H st) {r:Ah} (h:dpn r st=some s):(∃ H',Nx H st H' s)/\s.pre=st.pre/\ ∀ (F:Fr) (a:Act) (w:World) (G:AJ),R F st.toSt a w G-> ∃ G',R F s.toSt a w G'/\G'.own (1000003::r)=G.own r:=by
 unfold dpn at h;split at h
 ·rename_i E l hr;injection h with h;subst h;have hp:(fun i=>match Bc i r with | true=>true | false=>match Bc i (1000003::r)with | true=>true | false=>KX.aeS (1000003::r) i)=(fun i=>i==r||(i==1000003::r||D9 (1000003::r) i)):=by grind [CI,Kt]
  rw [hp];obtain⟨⟨H1,n1⟩,k1,k2,k3,k4,k5⟩:=Ag.acJ hw (fun i=>i==r||(i==1000003::r||D9 (1000003::r) i));obtain⟨H2,n2⟩:=I6 (l:=[(1000003::r,DX.deep E 0 l none)]) n1 (fun p hp=>by rcases mem_singleton.1 hp with rfl;trivial) (by simp) (fun p hp e he q=>by grind)
  obtain⟨s1,s2,s3,s4,s5,_⟩:=Er [(1000003::r,DX.deep E 0 l none)] (st.Ti (fun i=>i==r||(i==1000003::r||D9 (1000003::r) i)));refine⟨⟨H2,n2⟩,by grind,fun F a w G hR=>?_⟩;obtain⟨q1,_,e,q2,q3,q4⟩:=BK hr;obtain⟨G',g1,g2⟩:=hR.ar0 q1 rfl rfl (by
   grind [Aa7]) (id:=1000003::r) rfl rfl
  refine⟨G',?_,g2⟩;have ajC:CH (st.toSt.j_ (fun i=>i==r||(i==1000003::r||D9 (1000003::r) i)) (⟨1000003::r,some (E,T.sz E,l.length),l.flatMap (T.enc E),true⟩::((st.toSt.so.filter (fun d=>d.id != r&&d.id != 1000003::r)).map (AB.j_ (fun i=>i==r||(i==1000003::r||D9 (1000003::r) i))))))
   (Bm [(1000003::r,DX.deep E 0 l none)] (st.Ti (fun i=>i==r||(i==1000003::r||D9 (1000003::r) i)))).toSt :=by
   refine Ku ?_ ?_ ?_ (Fq n2.ok) ?_
   ·have:(Bm [(1000003::r,DX.deep E 0 l none)] (st.Ti (fun i=>i==r||(i==1000003::r||D9 (1000003::r) i)))).toSt.tm =(st.Ti (fun i=>i==r||(i==1000003::r||D9 (1000003::r) i))).toSt.tm :=by grind [Ag.toSt]
    rw [this];exact k1
   ·have:(Bm [(1000003::r,DX.deep E 0 l none)] (st.Ti (fun i=>i==r||(i==1000003::r||D9 (1000003::r) i)))).toSt.gh =(st.Ti (fun i=>i==r||(i==1000003::r||D9 (1000003::r) i))).toSt.gh :=by simp only [Ag.toSt,s2]
    rw [this];exact k2
   ·intro z hz;rw [s5]at hz;simp only [map_cons,map_nil,List.singleton_append,mem_cons]at hz;simp only [St.j_,mem_cons,mem_map,mem_filter];rcases hz with rfl | hz
    ·left;show (⟨1000003::r,some (E,T.sz E,l.length),AH T E 0 0 l,true⟩:AB)=_;simp_all [YT]
    grind
   ·show (Bm _ _).pre =st.pre;grind
  exact g1.less ajC
 ·cases h
theorem xH {H:Az T} {st:Ag T} (hw:AK H st) {d:Nat}:Yl (ddp d st) (fun d_=>(∃ H',Nx H st H' d_)/\d_.pre=st.pre/\Wk st.toSt d_.toSt):=by
 unfold ddp;split
 ·rename_i x hs;split
  ·rename_i r ho;have:=El ho;subst this;split
   ·rename_i s hr;obtain⟨⟨H2,n2⟩,p2,k2⟩:=lN hw hr;obtain⟨H3,n3⟩:=Ag.Th n2 (some d) (v:= .c (.c (.n_ (1000003::r)))) (by simp only [DV.ok,DC.ok]);refine Yl.ret ⟨⟨H3,n3⟩,by rw [AW,p2],fun F a w G hR=>?_⟩;have hsl:Ad w G (st.toSt.get d) (a.tmps.getD d Go.undef):=hR.M_ d;rw [st.abF d,hs]at hsl;simp only [DV.toV,DC.toC,Ad,Af]at hsl;obtain⟨G',g1,g2⟩:=k2 F a w G hR;refine⟨G',?_⟩;rw [Ag.r_];exact g1.agm (by simp_all [DV.toV,DC.toC,Ad,Af])
   ·exact Yl.no
  ·exact Yl.no
 ·exact Yl.no
def pM (id:Ah) (E:Nat) (l:List (T.den E)) (c:DC T):DC T:=match Kp c with
 | some i=>match Bc i id with
   | true=> .k (.u_ E) l
   | false=>Mx (fun i=>match Bc i id with | true=>true | false=>KX.aeS id i) c
 | none=>Mx (fun i=>match Bc i id with | true=>true | false=>KX.aeS id i) c
def YU (id:Ah) (E:Nat) (l:List (T.den E)):DV T->DV T
 | .c x=> .c (pM id E l x)
 | .agg cs=> .agg (cs.map (pM id E l))
 | _=> .u
def pN (id:Ah) (E:Nat) (l:List (T.den E)):DX T->DX T
 | .box cs=> .box (cs.map (pM id E l))
 | x=>x
def pFT (id i:Ah):Bool:=match Bc i id with
 | true=>true
 | false=>KX.aeS id i
theorem xI (id:Ah):pFT id=pF id:=by grind [pFT,pF,CI,Kt]
def Ag.awk (st:Ag T) (id:Ah):Option (Ag T):=match E9 id with
 | false=>none
 | true=>match Jz st id with
   | some ⟨E,(_,l,none)⟩=>some (let s:=st.aet (DV.q_ (pFT id)) (YU id E l) (DX.q_ (pFT id)) (pN id E l);{s with so:=s.so.filter fun e=> !(Bc e.id id)})
   | _=>none
theorem YV (id:Ah) (E:Nat) (l:List (T.den E)) (c:DC T):(pM id E l c).toC =TG id l.length (l.flatMap (T.enc E)) c.toC:=by
 have hp:(fun i=>match Bc i id with | true=>true | false=>KX.aeS id i)=pF id:=xI id;unfold pM;rw [hp];split
 ·rename_i i ho;have:=El ho;grind [AQ,DC.toC,Bk,rU,N2,W0]
 grind [N2,W0,Mt]
theorem sF {id:Ah} {E:Nat} {l:List (T.den E)} {c:DC T} (h:c.ok):(pM id E l c).ok :=by grind [pM,DC.ok,YL]
theorem W6 {id:Ah} {n:Nat} {ds:List C}: ∀ {l:List C},CD (pF id) l=false->l.map (TG id n ds)=l
 | [],_=>rfl
 | c::l,h=>by simp only [CD,Bool.or_eq_false_iff]at h;rw [map_cons,W6 h.2,W0,Cj,if_neg (by simp [h.1])];grind [C.q_,pF]
theorem Aa8 {id:Ah} {n:Nat} {ds:List C} {v:V} (h:v.q_ (pF id)=false):Ps id n ds v=v:=by
 cases v with
 | c x=>
   have:=W6 (n:=n) (ds:=ds) (l:=[x]) (by simpa [CD,V.q_] using h);grind [Ps]
 | agg cs=>grind [Ps,W6,V.q_]
 | tup vs=>exact O1 h
 | g b x=>exact O1 h
 | undef=>exact O1 h
theorem iu (id:Ah) (l:List (DE T)):(l.filter fun e=> !(Bc e.id id)).map DE.toE=(l.map DE.toE).filter (fun d=>d.id != id):=aid id l
theorem uV {H:Az T} {st d_:Ag T} {id:Ah} (h:AK H st) (hk:st.awk id=some d_):(∃ H',Nx H st H' d_)/\Wk st.toSt d_.toSt/\d_.pre=st.pre:=by
 unfold Ag.awk at hk;split at hk
 ·cases hk
 ·rename_i hd;split at hk
  ·rename_i E n l hr;injection hk with hk;subst hk;rw [xI];obtain⟨H',hN⟩:=Ag.aeP (p:=DV.q_ (pF id)) (f:=YU id E l) (q:=DX.q_ (pF id)) (g:=pN id E l) h (fun {H n v} hv=>by
    cases v<;>grind [YU,DV.ok,sF,Rx]) (fun {x} hx=>by
    cases x<;>grind [pN,DX.ok,Rx,sF])
   refine⟨⟨H',hN.ext,hN.le,Ej hN.ok _⟩,fun F a w G hR=>?_,rfl⟩;obtain⟨hmk,_,e,e1,e2,e3⟩:=BW hr;have hE:e.toE=⟨id,some (E,T.sz E,l.length),AH T E n 0 l,true⟩:=by unfold DE.toE;rw [e3,e2];rfl
   have hL:st.toSt.Tz id=some e.toE:=hR.U_ (mem_map.2 ⟨e,e1,rfl⟩) (by rw [hE]) hd;obtain⟨G',g⟩:=hR.att hL (by rw [hE]) (cells:=l.flatMap (T.enc E)) (by grind [QF]);refine⟨G',g.less ?_⟩;have f1: ∀ v:DV T,v.q_ (pF id)=true->(YU id E l v).toV = .undef \/(YU id E l v).toV =Ps id l.length (l.flatMap (T.enc E)) v.toV:=fun v _=>by
    cases v with
    | c x=>grind [YU,DV.toV,Ps,YV]
    | agg cs=>
      right;simp only [YU,DV.toV,Ps,Cz,map_map];grind [map_congr_left,YV]
    | _=>grind [YU,DV.toV]
   have f2: ∀ v:DV T,v.q_ (pF id)=false->Ps id l.length (l.flatMap (T.enc E)) v.toV=v.toV:=(by grind [Aa8,DV.agQ]);have sl: ∀ (m n:Nat) (tm:Tm T),I3 ((AI m tm).map (Ps id l.length (l.flatMap (T.enc E)))) (AI m (Pt (DV.q_ (pF id)) (YU id E l) n tm)):=fun m n tm=>by unfold AI;rw [map_map];refine I3.map fun i _=>?_;simp only [Function.comp,Mq (p:=DV.q_ (pF id)) (f:=YU id E l) (by simp [DV.q_])];grind
   have gl: ∀ (g:List (Nat×Tm T)) (n:Nat),I3 ((g.flatMap fun f=>AI f.1 f.2).map (Ps id l.length (l.flatMap (T.enc E)))) ((Qq (DV.q_ (pF id)) (YU id E l) n g).flatMap fun f=>AI f.1 f.2):=by
    intro g;induction g with
    | nil=>intro _;trivial
    | cons x r ih=>
      intro n;obtain⟨m,tm⟩:=x;simp only [Qq,flatMap_cons,map_append];exact(sl m n tm).append (ih _)
   refine Ku (sl _ _ _) (gl _ _) ?_ (Fq (Ej hN.ok _)) rfl;intro z hz;have hz:z∈((Qr (DX.q_ (pF id)) (pN id E l) (st.nx+st.tm.length+M7 st.gh) st.so).filter fun e=> !(Bc e.id id)).map DE.toE:=hz;have hF: ∀ x∈st.so,(DX.q_ (pF id) x.x=true-> ∀ t,(⟨x.id,t,pN id E l x.x⟩:DE T).toE =AB.frD id l.length (l.flatMap (T.enc E)) x.toE)/\(DX.q_ (pF id) x.x=false->AB.frD id l.length (l.flatMap (T.enc E)) x.toE=x.toE):=by
    intro x _;have base: ∀ t,(⟨x.id,t,pN id E l x.x⟩:DE T).toE =AB.frD id l.length (l.flatMap (T.enc E)) x.toE:=fun t=>by
     unfold DE.toE;cases hxx:x.x with
     | box cs=>
       simp only [pN,AB.frD,Cz,map_map,AB.mk.injEq,and_true,true_and];grind [map_congr_left,YV]
     | row E l=>rfl
     | deep E n l h=>rfl
    grind [DE.toE,DX.q_,F3,AB.frD,W6]
   rw [iu,NR (F:=AB.frD id l.length (l.flatMap (T.enc E))) _ hF]at hz;obtain⟨h1,h2⟩:=mem_filter.1 hz;obtain⟨d,h3,rfl⟩:=mem_map.1 h1;refine mem_map.2 ⟨d,mem_filter.2 ⟨h3,?_⟩,rfl⟩;have:(AB.frD id l.length (l.flatMap (T.enc E)) d).id =d.id:=by obtain⟨i,r,cs,_ | _⟩:=d<;>rfl
   grind
  ·cases hk
end Go.PL
namespace Go.PL
open Go Go.RowKit
variable {T:Bl}
theorem QI: ∀ {vs:List Value} {l:List C},DZ vs=some l-> ∀ v∈vs,(CJ v).isSome =true
 | [],_,_,v,hv=>by cases hv
 | x::vs,l,h,v,hv=>by
   unfold DZ at h;split at h
   ·rename_i c cs h1 h2;rcases mem_cons.1 hv with rfl | hv
    ·rw [h1];rfl
    ·exact QI h2 v hv
   ·cases h
theorem lO {P:Program} {st:St} {w:World} {G:AJ} {d:Nat} {t:TypeId} {l c:V} {u v:Value} (hx:Ad w G l u) (hy:Ad w G c v) (hs:(Kk P st d t l c).1) {r:Value} {w':World} (hr:(Instr.makeSlice t u v).run P w= .ok r w'):
 ∃ len cap,r= .slice (some ⟨w.heap.size,0,none⟩) len cap/\ ∀ k v,w'.cell? ⟨w.heap.size,k,none⟩=some v->(CJ v).isSome =true:=by
 unfold Kk at hs;split at hs
 ·rename_i k1 l k2 c E n by' abX;split at hs
  ·rename_i z hz;obtain⟨h0,h1,h2,h3,h4,h5⟩:=hs;obtain⟨i,zv,hu,hi,hzv,hsz,hby,hzs⟩:=Dz abX;obtain⟨i',zv',hi',adi,hc⟩:=GZ hz;rw [hi]at hi';injection hi' with hi';subst hi';rw [hzv]at adi;injection adi with adi;subst adi;have hM:maxLen=9223372036854775807:=rfl;simp only [Ad,Af]at hx hy;subst hx hy;have J_:=run_make (P:=P) w t E i zv hu hi hzv k1 k2 l c h0 h1 (by rw [hby,Int.mul_comm];omega) (by omega);rw [J_]at hr;injection hr with hr1 hr2;subst hr1 hr2;refine⟨_,_,rfl,fun k v hv=>?_⟩;have aiN:=QI hc;have aco:(madeCells zv.cells (c.toNat*i.size))[k]? =some v:=by simp_all
   have hk:k<c.toNat*i.size:=by grind [madeCells]
   have hz0:0<zv.cells.size:=by grind
   grind [madeCells,Nat.mod_lt]
  grind
 grind
theorem Aeh {w:World} {G:AJ} {n:Nat} {cs:List C} {v:Value} (h:Af w G (.sl n cs) v) (hc:(CJ v).isSome =true):v= .slice none 0 0/\n=0/\cs=[]:=by simp only [Af]at h;obtain⟨_,a,cap,rfl,h1,_,h3,_⟩:=h;unfold CJ at hc;grind
theorem YW: ∀ {ks:List Kd} {y:DK T.den ks} {p:Nat} {c:C},(BP T ks y)[p]? =some c->(∃ F n cs,c= .isl F (T.sz F) n cs/\(BD T.enc ks y)[p]? =some (.sl n cs))\/((BD T.enc ks y)[p]? =some c/\ov c=true)
 | [],_,_,_,h=>by simp [BP]at h
 | k::ks,y,0,c,h=>by
   simp only [BP,getElem?_cons_zero,injEq]at h;simp only [BD,getElem?_cons_zero,injEq];cases k with
   | u_ F=>exact .inl ⟨F,_,_,h.symm,rfl⟩
   | int _=>exact .inr ⟨h,by rw [<-h];rfl⟩
   | bool=>exact .inr ⟨h,by rw [<-h];rfl⟩
   | str=>exact .inr ⟨h,by rw [<-h];rfl⟩
 | k::ks,y,p+1,c,h=>by simp only [BP,List.getElem?_cons_succ]at h;simp only [BD,List.getElem?_cons_succ];exact YW h
theorem YX {E:Nat} {n:Int}: ∀ {l:List (T.den E)} {k:Int} {j:Nat} {c:C},k+l.length<=n->(AH T E n k l)[j]? =some c->(∃ F m cs,c= .isl F (T.sz F) m cs/\(l.flatMap (T.enc E))[j]? =some (.sl m cs))\/((l.flatMap (T.enc E))[j]? =some c/\ov c=true)
 | [],_,_,_,_,h=>by simp [AH]at h
 | x::l,k,j,c,hn,h=>by
   simp only [AH,List.length_cons]at h hn;rw [if_pos (by omega)]at h;have hl:(T.abz E x).length =(T.enc E x).length :=by
    unfold Bl.abz;rw [<-T.abw];have: ∀ (ks:List Kd) (y:DK T.den ks),(BP T ks y).length =(BD T.enc ks y).length :=by intro ks;induction ks<;>grind [BP,BD]
    grind
   rw [flatMap_cons];by_cases hj:j<(T.abz E x).length
   ·rw [List.getElem?_append_left hj]at h;rw [List.getElem?_append_left (by omega), <-T.abw];exact YW h
   ·rw [getElem?_append_right (by omega)]at h;rw [getElem?_append_right (by omega), <-hl];exact YX (by omega) h
theorem RF {E:Nat} {n:Int}: ∀ (l:List (T.den E)) (k:Int),Au (AH T E n k l)=true
 | [],_=>rfl
 | x::l,k=>by
   rw [AH,BR,RF l (k+1),Bool.and_true];split
   ·exact uT E x
   ·have:=Dd (T:=T) (.s E) x;grind [Eo,V.pure]
def Aei:Int->Bool
 | .ofNat 0=>true
 | _=>false
theorem uW {n:Int} (h:Aei n=true):n=0:=by grind [Aei]
def Aa9 (P:Program) (o:Oper) (st:Ag T) (d:Nat):M (Ag T):= .Z_ (uy P st o) fun st1=> .Z_ (ddp d st1) fun st2=>match st2.get d with
    | .c (.c (.n_ id))=>match Jz st2 id with
      | some ⟨E,(nn,l,none)⟩=>mIf (E9 id&&(Nat.blt d st2.m&&Aei nn)) (.opt (A1 (0<l.length)) fun _=> .ret ((st2.Ti (KX.aeS id)).abT id (.deep E (List.length l:Nat) l none)))
      | _=> .no
    | _=> .no
def pO:DC T->Bool
 | .k (.u_ _) _=>false
 | .k _ _=>true
 | .c .Tv =>true
 | _=>false
def Aba:List (DC T)->Bool
 | []=>true
 | c::r=>pO c&&Aba r
def T9:List (Nat×DV T)->Bool
 | []=>true
 | (_, .agg cs)::r=>Aba cs&&T9 r
 | _=>false
def dmk (P:Program) (o:Oper) (st:Ag T):M (Ag T):=match o.op,o.dst with
 | .makeSlice _ _ _,some d=>Aa9 P o st d
 | .buildSlice _ _ ps,some d=>match Hc st [] ps.toList with
   | some vs=>mIf (T9 vs) (Aa9 P o st d)
   | none=> .no
 | _,_=> .no
theorem YY {place:Nat->Option (Nat×Nat)}: ∀ {qs:List (Nat×Value)} {arr out:Array Value},Instr.fill place arr qs=some out->(∀ v∈arr.toList,(CJ v).isSome =true)->(∀ q∈qs, ∀ v∈q.2.cells.toList,(CJ v).isSome =true)-> ∀ v∈out.toList,(CJ v).isSome =true
 | [],arr,out,h,ha,_=>by simp only [Instr.fill,injEq]at h;subst h;exact ha
 | (i,v)::r,arr,out,h,ha,hq=>by
   simp only [Instr.fill]at h;split at h
   ·cases h
   ·rename_i off size hp;split at h
    ·cases h
    ·rename_i hb;refine YY h (fun u hu=>?_) (fun q hq'=>hq q (by simp [hq']));have e:=dz v.cells.toList off 0 arr (by simp at hb ⊢;omega);rw [<-Array.foldl_toList,Array.toList_zipIdx,e]at hu;rcases mem_append.1 hu with hu | hu
     ·rcases mem_append.1 hu with hu | hu
      ·exact ha u (List.mem_of_mem_take hu)
      ·exact hq (i,v) (by simp) u hu
     ·exact ha u (List.mem_of_mem_drop hu)
theorem pP {w:World} {G:AJ} {c:DC T} {v:Value} (h:pO c=true) (hr:Af w G c.toC v):(CJ v).isSome =true:=by
 unfold pO at h;split at h
 ·cases h
 ·rename_i kd x _;cases kd<;>simp only [DC.toC,Bk,Af]at hr<;>first | (subst hr;rfl) | (rename_i hne;exact(hne _ _ rfl).elim) | grind
 ·simp only [DC.toC,Af]at hr;subst hr;rfl
 ·cases h
theorem lP {w:World} {G:AJ}: ∀ {cs:List (DC T)} {vs:List Value},Aba cs=true->Ai w G (Ax cs) vs-> ∀ v∈vs,(CJ v).isSome =true
 | [],[],_,_,v,hv=>by cases hv
 | [],_::_,_,h,_,_=>by simp [Ax,Ai]at h
 | _::_,[],_,h,_,_=>by simp [Ax,Ai]at h
 | c::cs,u::us,hd,h,v,hv=>by
   simp only [Aba,and_eq_true]at hd;simp only [Ax,Ai]at h;rcases mem_cons.1 hv with rfl | hv
   ·exact pP hd.1 h.1
   ·exact lP hd.2 h.2 v hv
theorem VB {w:World} {G:AJ}: ∀ {ps:List (Nat×DV T)} {qs:List (Nat×Value)},T9 ps=true->Ni w G (lf ps) qs-> ∀ q∈qs, ∀ v∈q.2.cells.toList,(CJ v).isSome =true
 | [],[],_,_,q,hq=>by cases hq
 | [],_::_,_,h,_,_=>by simp [lf,Ni]at h
 | (i,x)::ps,[],_,h,_,_=>by simp [lf,Ni]at h
 | (i,x)::ps,(j,u)::qs,hc,h,q,hq=>by
   simp only [lf,map_cons,Ni]at h;cases x with
   | agg cs=>
     simp only [T9,and_eq_true]at hc;rcases mem_cons.1 hq with rfl | hq
     ·simp only [DV.toV,Ad]at h;obtain⟨_,⟨arr,rfl,h2⟩,_⟩:=h;exact lP hc.1 h2
     ·exact VB (ps:=ps) hc.2 h.2.2 q hq
   | _=>simp [T9]at hc
def MkC (P:Program) (st:St) (o:Oper):Prop:= ∀ (F:Fr) (a:Act) (w:World) (G:AJ),R F st a w G->(ef P st o).1-> ∃ len cap w0,(execOp a.eval o).run P w= .ok (.value (.slice (some ⟨w.heap.size,0,none⟩) len cap)) w0/\ ∀ k v,w0.cell? ⟨w.heap.size,k,none⟩=some v->(CJ v).isSome =true
theorem xJ {P:Program} {st:St} {o:Oper} {t:TypeId} {lo co:Operand} {d:Nat} (hop:o.op= .makeSlice t lo co) (hd:o.dst=some d):MkC P st o:=by
 intro F a w G hR e1;have apl:(Kk P st d t (st.arg true lo).2 (st.arg true co).2).1/\(st.arg true lo).1/\(st.arg true co).1:=by grind [ef]
 have hx:=hR.arg rfl apl.2.1;have hy:=hR.arg rfl apl.2.2;obtain⟨r0,w0,G0,m1,_⟩:=UZ (d:=d) hR hx hy apl.1;obtain⟨len,cap,rfl,ac7⟩:=lO hx hy apl.1 m1;exact⟨len,cap,w0,by simp [execOp,hop,m1],ac7⟩
theorem uX {H:Az T} {P:Program} {st:Ag T} (hw:AK H st) {o:Oper} {t:TypeId} {len:Nat} {ps:Array (Nat×Operand)} {d:Nat} {vs:List (Nat×DV T)} (hop:o.op= .buildSlice t len ps) (hd:o.dst=some d) (hp:Hc st [] ps.toList=some vs) (hc:T9 vs=true):MkC P st.toSt o:=by
 intro F a w G hR e1;have hs:(Bf P st.toSt d t len ps.toList).1:=by obtain⟨dst,op,ty,pos,aft,gd⟩:=o;simp only at hop hd;subst hop hd;exact e1
 unfold Bf at hs;split at hs
 ·rename_i E n by' abX;split at hs
  ·rename_i z hz;split at hs
   ·rename_i cs hf;obtain⟨h1,h2,h3,h4⟩:=hs;obtain⟨i,zv,hu,hi,hzv,hsz,hby,hzs⟩:=Dz abX;obtain⟨i',zv',hi',adi,hcz⟩:=GZ hz;rw [hi]at hi';injection hi' with hi';subst hi';rw [hzv]at adi;injection adi with adi;subst adi;have hzr:=LA (Fw (w:=w) (G:=G) hcz) (by omega) len;obtain⟨abN,q1,q2⟩:=Jn hf (OR (hR.parts rfl h1)) hzr;have q1':Instr.fill (fun i=>some (i*n,n)) ((Array.range (len*n)).map (zv.cells[· % zv.cells.size]!)) (ps.map fun(i,x)=>(i,a.eval x)).toList =some abN:=by simp_all
    have hrp:Ni w G (lf vs) (ps.map fun(i,x)=>(i,a.eval x)).toList :=by obtain⟨_,_,p3⟩:=FV (key:=[]) hw (fun _ hl=>by cases hl) rfl hp;change (st.toSt.parts true ps.toList).2=lf vs at p3;have:=hR.parts rfl h1;rw [p3]at this;rw [Array.toList_map];exact this
    have hz0:0<zv.cells.size:=by grind
    have aiN:=QI hcz;have hconst:=YY q1' (fun v hv=>by simp only [Array.toList_map,Array.toList_range,mem_map,List.mem_range]at hv;obtain⟨k,_,rfl⟩:=hv;have hlt:k % zv.cells.size<zv.cells.size:=Nat.mod_lt _ hz0;rw [getElem!_pos zv.cells _ hlt];exact aiN _ (by simp)) (VB hc hrp)
    have J_:=ac6 (P:=P) (w:=w) (ps:=ps.map fun(i,x)=>(i,a.eval x)) hu hi hzv hsz h3 h4 q1';refine⟨len,len,w.alloc (.cells abN E),by simp [execOp,hop,J_],fun k v hv=>?_⟩;have aco:abN[k]? =some v:=by simp_all
    exact hconst v (by grind)
   ·exact hs.elim
  ·exact hs.elim
 ·exact hs.elim
theorem sG {H:Az T} {P:Program} {I:World->Prop} {st:Ag T} (hw:AK H st) {o:Oper} {d:Nat} (hd:o.dst=some d) (hmk:MkC P st.toSt o):Yl (Aa9 P o st d) (fun d_=>(∃ H',Nx H st H' d_)/\d_.pre=st.pre/\ ∀ K:St->Prop,K d_.toSt->E4 P I o st.toSt K):=by
 unfold Aa9
 ·refine Yl.Z_ (W3 hw o) fun st1 h1=>?_;obtain⟨⟨H1,n1⟩,e1,e2,p1⟩:=h1;refine Yl.Z_ (xH n1.ok) fun st2 h2=>?_;obtain⟨⟨H2,n2⟩,p2,w2⟩:=h2;split
  ·rename_i id hg;split
   ·rename_i E nn l hdr;refine Yl.mIf fun hb=>Yl.opt fun u hu=>Yl.ret ?_;simp only [and_eq_true,Nat.blt_eq]at hb;obtain⟨hb1,hb2,hb3⟩:=hb;have hnn:=uW hb3;subst hnn;have hlen:0<l.length:=Ck hu;have hp:(KX.aeS id)=D9 id:=funext fun i=>Kt id i;rw [hp];obtain⟨⟨H3,n3⟩,k1,k2,k3,k4,k5⟩:=Ag.acJ n2.ok (D9 id);obtain⟨H4,n4⟩:=Ag.abP n3.ok id (x:= .deep E (List.length l:Nat) l none) trivial;refine⟨⟨H4,((n1.trans n2).trans n3).trans n4⟩,by show (st2.Ti (D9 id)).pre =st.pre;grind,fun K hK F a w G Q hI hR=>?_⟩;obtain⟨len,cap,w0,J_,ac7⟩:=hmk F a w G hR e1;obtain⟨nx,w',G1,q1,q2⟩:=(Rc hR e1).out;rw [J_]at q1;injection q1 with q1 q1';subst q1 q1';have hR1:R F st1.toSt (a.put (some d) (.slice (some ⟨w.heap.size,0,none⟩) len cap)) w0 G1:=by
     rcases q2 with ⟨v,e,q⟩ | ⟨e,_⟩
     ·injection e with e;subst e;rw [hd]at q;exact q.less e2
     ·cases e
    obtain⟨G2,hR2⟩:=w2 _ _ _ _ hR1;have hsl:Ad w0 G2 (st2.toSt.get d) ((a.put (some d) (.slice (some ⟨w.heap.size,0,none⟩) len cap)).tmps.getD d Go.undef):=hR2.M_ d;rw [st2.abF d,hg]at hsl;have hsz:d<a.tmps.size:=by have:=hR2.size;simp only [Act.put,Array.size_setIfInBounds]at this;rw [this];show d<(AI st2.m st2.tm).length;rw [Bt];exact hb2
    have hpv:(a.put (some d) (.slice (some ⟨w.heap.size,0,none⟩) len cap)).tmps.getD d Go.undef= .slice (some ⟨w.heap.size,0,none⟩) len cap:=by simp_all [Act.put]
    rw [hpv]at hsl;simp only [DV.toV,DC.toC,Ad,Af]at hsl;obtain⟨aLJ,hlr,e,he1,he2,he3⟩:=BW hdr;have hE:e.toE=⟨id,some (E,T.sz E,l.length),l.flatMap (T.enc E),true⟩:=by simp_all [DE.toE,Bo,YT]
    have hm:e.toE∈st2.toSt.so:=mem_map.2 ⟨e,he1,rfl⟩;have hL:st2.toSt.Tz id=some e.toE:=hR2.U_ hm (by rw [hE]) hb1;have ab5:G2.y_ id=some w.heap.size:=by have hS:=hR2.store _ hm;grind [Ba]
    obtain⟨E1,n1',amK,v1,acy,akS,g1,g2,g3,g4,g5,g6,g7,g8,g9⟩:=hR2.ael hL ab5;rw [hE]at g9;obtain⟨us,r1,r2⟩:=g9.list;obtain⟨G3,hR3,aaK⟩:=hR2.apN hL (cs':=AH T E (List.length l:Nat) 0 l) (by grind [JA]) (RF l 0) ab5 (fun k c hk=>by
     rw [hE];rcases YX (by omega) hk with ⟨F1,m,cs,z1,z2⟩ | z
     ·right;obtain⟨v,y1,y2⟩:=gU r1 z2;have aco:=r2 k v y1;rw [zero_add]at aco;grind [Aeh]
     grind)
    have ajC:CH (st2.toSt.j_ (D9 id) ((st2.toSt.so.map (AB.j_ (D9 id))).map (aar id e.toE.row (AH T E (List.length l:Nat) 0 l)))) ((st2.Ti (D9 id)).abT id (.deep E (List.length l:Nat) l none)).toSt :=by
     refine Ku ?_ ?_ ?_ (Fq n4.ok) ?_
     ·exact k1
     ·exact k2
     ·intro z hz;simp only [St.j_,mem_map];obtain⟨e3,h1,rfl⟩:=mem_map.1 hz;rcases acE n3.ok.nd h1 with ⟨h1,h2⟩ | h1
      ·obtain⟨d3,h3,h4,h5⟩:=eV n2.ok (mem_map.2 ⟨e3,h1,rfl⟩);have aDG:d3.id ≠ id:=by grind [AB.K_,DE.toE_id]
       refine⟨d3.j_ (D9 id),⟨d3,h3,rfl⟩,?_⟩;grind [D7,AB.K_]
      ·subst h1;refine⟨e.toE.j_ (D9 id),⟨e.toE,hm,rfl⟩,?_⟩;rw [D8 (by rw [AB.K_,hE]),AB.K_,AB.agT,hE];rfl
     ·show (st2.Ti (D9 id)).pre =st2.pre;exact k4
    unfold Oper.wp;rw [J_];refine⟨_,G3,hK,?_⟩;rw [hd];exact hR3.less ajC
   ·exact Yl.no
  ·exact Yl.no
theorem Aej {H:Az T} {P:Program} {I:World->Prop} {st:Ag T} (hw:AK H st) {o:Oper}:Yl (dmk P o st) (fun d_=>(∃ H',Nx H st H' d_)/\d_.pre=st.pre/\ ∀ K:St->Prop,K d_.toSt->E4 P I o st.toSt K):=by
 unfold dmk;split
 ·rename_i hop hd;exact sG hw hd (xJ hop hd)
 ·rename_i hop hd;split
  ·rename_i hp;exact Yl.mIf fun hc=>sG hw hd (uX hw hop hd hp hc)
  ·exact Yl.no
 ·exact Yl.no
end Go.PL
namespace Go.PL
open Go Go.RowKit
variable {T:Bl}
def JK (c:DC T):(ks:List Kd)->DK T.den ks->Nat->Option (DK T.den ks)
 | .int k::_,y,0=>match HN false (.int k) c with
   | some x=>some (x,y.2)
   | none=>none
 | .bool ::_,y,0=>match HN false .bool c with
   | some x=>some (x,y.2)
   | none=>none
 | .str ::_,y,0=>match HN false .str c with
   | some x=>some (x,y.2)
   | none=>none
 | _::ks,y,p+1=>match JK c ks y.2 p with
   | some z=>some (y.1,z)
   | none=>none
 | _,_,_=>none
theorem N4 {c:DC T}: ∀ {ks:List Kd} {y z:DK T.den ks} {p:Nat},JK c ks y p=some z->
 BP T ks z=(BP T ks y).set p c.toC/\BD T.enc ks z=(BD T.enc ks y).set p c.toC/\p<ks.length/\c.toC.pure=true/\ov c.toC=true
 | [],_,_,_,h=>by simp [JK]at h
 | .u_ F'::ks,y,z,0,h=>by simp [JK]at h
 | .int k::ks,y,z,0,h=>by
   simp only [JK]at h;split at h
   ·rename_i x hx;injection h with h;subst h;have:=(Cv hx).2 rfl;rw [this];exact⟨rfl,rfl,by simp,rfl,rfl⟩
   ·cases h
 | .bool ::ks,y,z,0,h=>by
   simp only [JK]at h;split at h
   ·rename_i x hx;injection h with h;subst h;have:=(Cv hx).2 rfl;rw [this];exact⟨rfl,rfl,by simp,rfl,rfl⟩
   ·cases h
 | .str ::ks,y,z,0,h=>by
   simp only [JK]at h;split at h
   ·rename_i x hx;injection h with h;subst h;have:=(Cv hx).2 rfl;rw [this];exact⟨rfl,rfl,by simp,rfl,rfl⟩
   ·cases h
 | k::ks,y,z,p+1,h=>by
   have h:(match JK c ks y.2 p with | some z=>some ((y.1,z):OW T.den k×DK T.den ks) | none=>none)=some z:=by cases k<;>simpa only [JK] using h
   split at h
   ·rename_i z' hz;injection h with h;subst h;obtain⟨a,b,d,e,f⟩:=N4 hz;exact⟨by simp only [BP,set_cons_succ];rw [a],by simp only [BD,set_cons_succ];rw [b],by simp;omega,e,f⟩
   ·cases h
theorem VC {E:Nat} {n:Int} {c:C} {p:Nat} {x':T.den E}: ∀ {l:List (T.den E)} {k:Int} {i:Nat} {x:T.den E},l[i]? =some x->T.abz E x'=(T.abz E x).set p c->T.enc E x'=(T.enc E x).set p c->p<T.sz E->(AH T E n k l).set (i*T.sz E+p) c=AH T E n k (l.set i x')
 | [],_,_,_,h,_,_,_=>by simp at h
 | y::l,k,0,x,h,hx,hx2,hp=>by
   simp only [getElem?_cons_zero,injEq]at h;subst h;rw [List.set_cons_zero,AH,AH,Nat.zero_mul,zero_add];by_cases hk:k<n
   all_goals simp_all [Ei,if_neg,AV]
 | y::l,k,i+1,x,h,hx,hx2,hp=>by
   have hl:(if k<n then T.abz E y else T.enc E y).length =T.sz E:=by grind [Ei,AV]
   rw [set_cons_succ,AH,AH,List.set_append_right _ _ (by rw [hl,add_mul,one_mul];omega),hl,show (i+1)*T.sz E+p - T.sz E=i*T.sz E+p by rw [add_mul,one_mul];omega];rw [VC (by simpa using h) hx hx2 hp]
def CO (P:Program) (o:Oper) (st:Ag T):M (Ag T):=match o.op with
 | .store t x y=>match o.dst,st.arg [] x,st.arg [] y,KO P t with
   | none,some (.c (.rp id N i off)),some (.c c),some (false,1)=>match Jz st id with
     | some ⟨E,(nn,l,none)⟩=>mIf (E9 id&&Nat.beq N (T.sz E)) (.opt (idx l i) fun x=>
      match JK c (T.ks E) (T.un E x) off with
      | some z=> .ret (st.abT id (.deep E nn (l.set i.toNat (T.bd E z)) none))
      | none=> .no)
     | _=> .no
   | _,_,_,_=> .no
 | _=> .no
theorem Aek {H:Az T} {P:Program} {I:World->Prop} {st:Ag T} (hw:AK H st) {o:Oper}:Yl (CO P o st) (fun d_=>(∃ H',Nx H st H' d_)/\d_.pre=st.pre/\ ∀ K:St->Prop,K d_.toSt->E4 P I o st.toSt K):=by
 unfold CO;split
 ·rename_i t x y hop;split
  ·rename_i id N i off c hd hx hy ht;split
   ·rename_i E nn l hdr;refine Yl.mIf fun hg=>Yl.opt fun xx hxx=>?_;simp only [and_eq_true,beq_eq]at hg;obtain⟨g1,g2⟩:=hg;subst g2;split
    ·rename_i z hz;obtain⟨i0,i1,hxi⟩:=IE hxx;obtain⟨a1,a2,a3⟩:=Hd hw hx;obtain⟨b1,b2,b3⟩:=Hd hw hy;obtain⟨hmk,hlr,e,he1,he2,he3⟩:=BW hdr;obtain⟨z1,z2,acX,z3,z4⟩:=N4 hz;have hE:e.toE=⟨id,some (E,T.sz E,l.length),AH T E nn 0 l,true⟩:=by unfold DE.toE;rw [he3,he2];rfl
     have amU:T.abz E (T.bd E z)=(T.abz E xx).set off c.toC:=by rw [Bl.abz,T.afT,z1];rfl
     have aDO:T.enc E (T.bd E z)=(T.enc E xx).set off c.toC:=by rw [<-T.abw,T.afT,z2,T.abw]
     have aiL:=VC (n:=nn) (k:=0) (x':=T.bd E z) (c:=c.toC) (p:=off) hxi amU aDO acX;obtain⟨H2,n2⟩:=Ag.abP hw id (x:= .deep E nn (l.set i.toNat (T.bd E z)) none) trivial;refine Yl.ret ⟨⟨H2,n2⟩,rfl,fun K hK Fr a w G Q hI hR=>?_⟩;have hm:e.toE∈st.toSt.so:=mem_map.2 ⟨e,he1,rfl⟩;have hL:st.toSt.Tz id=some e.toE:=hR.U_ hm (by rw [hE]) g1;have hxv:=hR.arg rfl a2;rw [a3]at hxv;simp only [DV.toV,DC.toC,Ad,Af]at hxv;obtain⟨b,hb1,hv⟩:=hxv;have hyv:=hR.arg rfl b2;rw [b3]at hyv;simp only [DV.toV,Ad]at hyv;have adj:=hyv.one;have hcl:(a.eval y).cells.toList =[a.eval y]:=by cases hq:a.eval y<;>rw [hq]at adj<;>first | rfl | cases adj
     have hc:Ai w G [c.toC] (a.eval y).cells.toList :=by rw [hcl];exact⟨hyv,trivial⟩
     have hlen:e.toE.cs.length=l.length*T.sz E:=by grind [JA]
     have ay1:off<T.sz E:=acX;have hk:i.toNat*T.sz E+off<e.toE.cs.length:=by rw [hlen];have:(i.toNat+1)*T.sz E<=l.length*T.sz E:=mul_le_mul_right _ (by omega);grind
     obtain⟨cur,T',c1,c2,c3⟩:=hR.ady hL hb1 (off:=i.toNat*T.sz E+off) hc (by simp;omega) (by simp [Au,z3]) (by simp [z4]);have hs:=Eg (P:=P) ht c1 (by grind) c2 (Ai.one hc);generalize w.setRow b _=w1 at hs c3;have J_:(execOp a.eval o).run P w= .ok .skip w1:=by simp_all [execOp]
     refine FA J_ ?_;rw [hd];refine⟨_,G,hK,c3.less ?_⟩;refine Ku (I3.refl _) (I3.refl _) ?_ (Fq n2.ok) rfl;intro u hu;obtain⟨e3,h1,rfl⟩:=mem_map.1 hu;rcases acE hw.nd h1 with ⟨h1,h2⟩ | h1
     ·exact mem_map.2 ⟨e3.toE,mem_map.2 ⟨e3,h1,rfl⟩,(by grind [D7,DE.toE_id])⟩
     ·subst h1;refine mem_map.2 ⟨e.toE,hm,?_⟩;rw [D8 (by rw [hE])];show _=(⟨id,some (E,T.sz E,(l.set i.toNat (T.bd E z)).length),AH T E nn 0 (l.set i.toNat (T.bd E z)),true⟩:AB);simp only [hE,length_set];simp_all [List.set_eq_take_append_cons_drop]
    ·exact Yl.no
   ·exact Yl.no
  ·exact Yl.no
 ·exact Yl.no
def dug (ks:List Nat) (st:Ag T):Ag T:=match st.gh with
 | []=>st
 | (m,tm)::r=>{st with gh:=(m,Hg ks tm)::r}
theorem Ael {H:Az T} {st:Ag T} (hw:AK H st) (ks:List Nat):(∃ H',Nx H st H' (dug ks st))/\(dug ks st).pre =st.pre/\Wk st.toSt (dug ks st).toSt :=by
 unfold dug;split
 ·exact⟨⟨H,Nx.refl hw⟩,rfl,Wk.less (CH.refl _)⟩
 ·rename_i m tm r hg;have hn:Nx H st H {st with gh:=(m,Hg ks tm)::r}:=⟨C4.refl _ _,le_refl _,hw.tm,fun f hf=>by
   rcases mem_cons.1 hf with rfl | hf
   ·exact fun s t v hm=>hw.gh (m,tm) (by grind) s t v (Mv hm)
   ·exact hw.gh f (by grind),hw.so,hw.nd⟩
  refine⟨⟨H,hn⟩,rfl,Wk.less (Ku (I3.refl _) ?_ (fun _ h=>h) (Fq hn.ok) rfl)⟩;show I3 (st.gh.flatMap fun f=>AI f.1 f.2) (((m,Hg ks tm)::r).flatMap fun f=>AI f.1 f.2);rw [hg,flatMap_cons,flatMap_cons];refine I3.append ?_ (I3.refl _);unfold AI;refine I3.map fun i _=>?_;rw [OZ];split
  ·grind
  ·exact .inl rfl
end Go.PL
set_option linter.all false
namespace Go.PL
open Go Go.RowKit
variable {T:Bl}
def W7 {P:Program} {I:World->Prop} (f:FuncId):List (CE T P I)->Option TypeId
 | []=>none
 | e::r=>match Nat.beq e.f f,e.ins with
   | true,some E=>some E
   | _,_=>W7 f r
theorem RG {P:Program} {I:World->Prop} {f:FuncId} {E:TypeId}: ∀ {l:List (CE T P I)},W7 f l=some E->Vq P f E
 | [],h=>by cases h
 | e::r,h=>by
   unfold W7 at h;split at h
   ·rename_i E' hb hE;injection h with h;subst h;rw [<-eq_of_beq_eq_true hb];exact e.aua _ hE
   ·exact RG h
def AgL {P:Program} {I:World->Prop} {E:TypeId} (f:FuncId) (h:Vq P f E):CE T P I where
 f:=f
 ps:=[]
 rs:=[]
 run:=fun _=>none
 ok:=(by grind)
 ins:=some E
 aua:=(by grind)
def xK (st:Ag T) (r:Ah) (E:Nat) (l m:List (T.den E)) (i:Int) (d:Nat):M (Ag T):=
 .opt (A1 (0<=i/\i<=(l.length:Nat)/\0<m.length/\(l.length+m.length)*8<=140737488355328)) fun _=>
  match st.new r (.row E (l.take i.toNat++(m++l.drop i.toNat)))with
  | some s=> .ret (s.put (some d) (.c (.c (.n_ r))))
  | none=> .no
theorem xL {H:Az T} {P:Program} {I:World->Prop} {st:Ag T} (hw:AK H st) {o:Oper} {f:FuncId} {x y z:Operand} {d:Nat} {r rv:Ah} {E:Nat} {l m:List (T.den E)} {i:Int} (hk:Cb o.op= .call f [x,y,z]) (hd:o.dst=some d) (g1:PL.ent P f=true) (hp:Vq P f E) (g4:T.sz E=1) (hne:r ≠ rv)
 (hx:st.arg [] x=some (.c (.c (.n_ r)))) (hy:st.arg [] y=some (.c (.k (.int .i64) i))) (hz:st.arg [] z=some (.c (.c (.n_ rv)))) (hr:DA st r=some ⟨E,l⟩) (hrv:DA st rv=some ⟨E,m⟩):
 Yl (xK st r E l m i d) (fun d_=>(∃ H',Nx H st H' d_)/\d_.pre=st.pre/\ ∀ K:St->Prop,K d_.toSt->E4 P I o st.toSt K):=by
 unfold xK;refine Yl.opt fun u hn=>?_;have hn:=Ck hn;split
 ·rename_i s hs;obtain⟨⟨H1,n1⟩,l1,p1⟩:=Ag.acW hw (show (DX.row E _:DX T).ok from trivial) hs;obtain⟨H2,n2⟩:=Ag.Th n1 (some d) (v:= .c (.c (.n_ r))) (by simp only [DV.ok,DC.ok]);refine Yl.ret ⟨⟨H2,n2⟩,by rw [AW];exact p1,fun K hK=>?_⟩;obtain⟨_,a2,a3⟩:=Hd hw hx;obtain⟨_,b2,b3⟩:=Hd hw hy;obtain⟨_,c2,c3⟩:=Hd hw hz;obtain⟨h1,_,_⟩:=BK hr;obtain⟨h2,_,_⟩:=BK hrv;rw [g4]at h1 h2;have hlen: ∀ l:List (T.den E),(l.flatMap (T.enc E)).length =l.length:=fun l=>by rw [YS (fun y=>AV E y),g4,Nat.mul_one]
  have ht: ∀ (l:List (T.den E)) (j:Nat),(l.flatMap (T.enc E)).take j=(l.take j).flatMap (T.enc E):=fun l j=>by have:=G7 (fun y=>AV E y) l j;grind
  have hdp: ∀ (l:List (T.den E)) (j:Nat),(l.flatMap (T.enc E)).drop j=(l.drop j).flatMap (T.enc E):=fun l j=>by have:=IZ (fun y=>AV E y) l j;grind
  have hE:(⟨r,0, .row E (l.take i.toNat++(m++l.drop i.toNat))⟩:DE T).toE =⟨r,some (E,1,l.length+m.length),(l.flatMap (T.enc E)).take i.toNat++m.flatMap (T.enc E)++(l.flatMap (T.enc E)).drop i.toNat,true⟩:=by show (⟨r,some (E,T.sz E,(l.take i.toNat++(m++l.drop i.toNat)).length),(l.take i.toNat++(m++l.drop i.toNat)).flatMap (T.enc E),true⟩:AB)=_;grind
  refine E4.ins (K:=K) hk g1 hp (fun Fr a w G hR=>?_) (fun Fr a w G hR=>?_) (fun Fr a w G hR=>?_) h1 h2 hne ⟨hn.1,hn.2.1⟩ hn.2.2.1 hn.2.2.2 (by rw [<-hE];exact l1) (by grind [Ag.r_,DV.toV,DC.toC])
  ·have:=hR.arg rfl a2;grind [DV.toV,DC.toC]
  ·have:=hR.arg rfl b2;grind [DV.toV,DC.toC,Bk]
  ·have:=hR.arg rfl c2;simp_all [DV.toV,DC.toC]
 ·exact Yl.no
def Aem {P:Program} {I:World->Prop} (Γ:List (CE T P I)) (o:Oper) (st:Ag T):M (Ag T):=match Cb o.op,o.dst with
 | .call f [x,y,z],some d=>match st.arg [] x,st.arg [] y,st.arg [] z,W7 f Γ with
   | some (.c (.c (.n_ r))),some (.c (.k (.int .i64) i)),some (.c (.c (.n_ rv))),some E0=>match DA st r,DA st rv with
     | some ⟨E,l⟩,some ⟨E',m'⟩=>match YM E E' m' with
       | some m=>mIf ((PL.ent P f&& !Bc r rv)&&(Nat.beq E0 E&&Nat.beq (T.sz E) 1)) (xK st r E l m i d)
       | none=> .no
     | _,_=> .no
   | _,_,_,_=> .no
 | _,_=> .no
theorem Abb {H:Az T} {P:Program} {I:World->Prop} {Γ:List (CE T P I)} {st:Ag T} (hw:AK H st) {o:Oper}:Yl (Aem Γ o st) (fun d_=>(∃ H',Nx H st H' d_)/\d_.pre=st.pre/\ ∀ K:St->Prop,K d_.toSt->E4 P I o st.toSt K):=by
 unfold Aem;split
 ·rename_i f x y z d hk hd;split
  ·rename_i r i rv E0 hx hy hz hp;split
   ·rename_i E l E' m' hr hrv;split
    ·rename_i m hm;refine Yl.mIf fun hg=>?_;simp only [and_eq_true,beq_eq,not_eq_true']at hg;obtain⟨⟨g1,g2⟩,g3,g4⟩:=hg;subst g3;obtain⟨e,hme⟩:=JJ hm;subst e;subst hme;exact xL hw hk hd g1 (RG hp) g4 (fun q=>by rw [AQ.2 q]at g2;cases g2) hx hy hz hr hrv
    ·exact Yl.no
   ·exact Yl.no
  ·exact Yl.no
 ·exact Yl.no
end Go.PL
