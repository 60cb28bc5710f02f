/- The pure logic: Tv, Tv2, PlYh, PlPa, PlPb, PlPc, PlPl, PlPq, PlPw, PlPd, PlPx. -/
import Derived.Test.YteginlijmbcopaaGreatDoorTu9toTs
import Derived.Test.YteginlijmbcopaaGreatDoorPlYgtoTu8
import Derived.Test.YteginlijmbcopaaGreatDoorPlPvtoPlYf
import Derived.Shelf.Spec.SlicesInsert
import Derived.Shelf.Spec.SlicesInsertGrow
import Derived.Test.YteginlijmbcopaaGreatDoorPlRtoPlPt
import Derived.Lib.ItoaNum
import Derived.Lib.AtoiAll
import Derived.Lib.Bytealg
import Derived.Lib.Join
import Derived.JoinedOf
import Derived.Handed
import Derived.LaidSub
import Derived.Lib.LaidTab
open List (map_cons length_append all_cons length_cons headD_nil map_nil append_assoc nil_append all_nil)
open Bool (and_eq_true)
open Nat (zero_le mul_one)
set_option linter.all false
set_option linter.all false
namespace Go.PL
open Go Go.RowKit
variable {T:Bo}
def rO (st:Af T) (id:Ah):Option ((E:Nat)×(Int×List (T.den E))):=match Fh id&& !C4 id with
 | false=>none
 | true=>match Hg st.so id with
   | some e=>match e.x with
     | .deep E n l none=>some ⟨E,(n,l)⟩
     | _=>none
   | none=>none
theorem n7 {st:Af T} {id:Ah} {E:Nat} {n:Int} {l:List (T.den E)} (h:rO st id=some ⟨E,(n,l)⟩):Fh id=true/\C4 id=false/\ ∃ e∈st.so,e.id=id/\e.x= .deep E n l none:=by
 unfold rO at h;split at h
 ·cases h
 ·rename_i hd;simp only [and_eq_true,Bool.not_eq_true']at hd;split at h
  ·rename_i e he;split at h
   ·rename_i E' n' l' hx;injection h with h;injection h with h1 h2;subst h1;have h2:=eq_of_heq h2;grind [CY]
   ·cases h
  ·cases h
def zC (k:Kd) (c:DC T):M (P6 T.den k×List Ah):= .M_ (.sm (Ij true k c)) fun x=> .ret (x,[])
def Acn (st:Af T) (m:Nat) (k:Kd) (c:DC T):M (P6 T.den k×List Ah):=match k with
 | .l_ E=>match m with
   | 1=>match Le c with
     | some id=>match DG st id with
       | some ⟨E',l⟩=> .M_ (.sm (ax E E' l)) fun l'=> .ret (l',[id])
       | none=> .no
     | none=> .no
   | 2=>match Le c with
     | some id=>match rO st id with
       | some ⟨E',(n,l)⟩=> .opt (k_ (n=(List.length l:Nat))) fun _=> .M_ (.sm (ax E E' l)) fun l'=> .ret (l',[id])
       | none=> .no
     | none=> .no
   | _=>zC (.l_ E) c
 | k=>zC k c
def Aco (st:Af T):List Nat->(ks:List Kd)->List (DC T)->M (DK T.den ks×List Ah)
 | m::ms,k::ks,c::cs=> .M_ (Acn st m k c) fun a=> .M_ (Aco st ms ks cs) fun b=> .ret ((a.1,b.1),a.2++b.2)
 | [],k::ks,c::cs=> .M_ (zC k c) fun a=> .M_ (Aco st [] ks cs) fun b=> .ret ((a.1,b.1),b.2)
 | _,[],[]=> .ret ((),[])
 | _,_,_=> .no
def rP (st:Af T) (m:List Nat):(t:VT)->DV T->M (Eu T t×List Ah)
 | .k kd,v=>match asC v with
   | some c=>Acn st (m.headD 0) kd c
   | none=> .no
 | .s E,v=>match asA v with
   | some cs=> .M_ (Aco st m (T.ks E) cs) fun a=> .ret (T.bd E a.1,a.2)
   | none=> .no
 | .f _,_=> .no
def wO (P:Program) (st:Af T):List (List Nat)->(ts:List VT)->List ResultVar->M (RT T ts×List Ah)
 | m::_,[t],[x]=> .M_ (Xf P st x) fun v=>rP st m t v
 | [],[t],[x]=> .M_ (Xf P st x) fun v=>rP st [] t v
 | m::ms,t::u::ts,x::xs=> .M_ (Xf P st x) fun v=> .M_ (rP st m t v) fun a=> .M_ (wO P st ms (u::ts) xs) fun b=> .ret ((a.1,b.1),a.2++b.2)
 | [],t::u::ts,x::xs=> .M_ (Xf P st x) fun v=> .M_ (rP st [] t v) fun a=> .M_ (wO P st [] (u::ts) xs) fun b=> .ret ((a.1,b.1),a.2++b.2)
 | _,_,_=> .no
structure qd (st:Af T) (os:List OE) (ids:List Ah) (n:Nat):Prop where
 len:os.length=n/\ids.length=n
 ns:KX os ids=true
 so: ∀ e∈CZ os ids,e∈st.toSt.so
theorem qd.nil {st:Af T}:qd st [] [] 0:=⟨⟨rfl,rfl⟩,rfl,fun _ h=>by simp [CZ]at h⟩
theorem qd.append {st:Af T} {a b:List OE} {i j:List Ah} {n m:Nat} (h:qd st a i n) (k:qd st b j m):qd st (a++b) (i++j) (n+m):=by
 have e:a.length=i.length:=h.len.1.trans h.len.2.symm;refine⟨⟨by simp [h.len.1,k.len.1],by simp [h.len.2,k.len.2]⟩,Lh h.ns k.ns,fun x hx=>?_⟩;rw [Jk e]at hx;rcases List.mem_append.1 hx with hx | hx
 ·exact h.so x hx
 ·exact k.so x hx
theorem Ku: ∀ (ks:List Kd) (x:DK T.den ks),Ct [] ks x=[]
 | [],_=>rfl
 | _::_,_=>rfl
theorem wP (ks:List Kd):Fw [] ks=0:=by cases ks<;>rfl
theorem ur {k:Kd} {c:DC T}:Yl (zC k c) (fun a=>a.2=[]/\ ∀ (w:World) (G:AG) (v:Value),Ad w G c.toC v->Ad w G (Bm T.enc k a.1) v):=
 Yl.M_ (Yl.sm fun x hx=>(CB hx).1) fun x hx=>Yl.ret ⟨rfl,(by grind [Jx])⟩
theorem ut {st:Af T} {H:As T} (hw:AH H st) (m:Nat) (k:Kd) (c:DC T):Yl (Acn st m k c) (fun a=>qd st (Ko m k a.1) a.2 (QF m k)/\
 ∀ (pre post:List Ah) (w:World) (G:AG) (v:Value),Ad w G c.toC v->Ad w G ((QO m pre.length k a.1).toC (pre++(a.2++post))) v):=by
 have fr: ∀ (k:Kd) (c:DC T),(∀ x,Ko (T:=T) m k x=[])->QF m k=0->Yl (zC k c) (fun a=>qd st (Ko m k a.1) a.2 (QF m k)/\
  ∀ (pre post:List Ah) (w:World) (G:AG) (v:Value),Ad w G c.toC v->Ad w G ((QO m pre.length k a.1).toC (pre++(a.2++post))) v):=fun k c h1 h2=>by
  refine ur.mono fun a ⟨q1,q2⟩=>⟨by grind [qd.nil],fun pre post w G v h=>?_⟩;unfold QO;rw [h2];exact q2 w G v h
 have own: ∀ (E:Nat) (id:Ah) (e:DE T) (dp:Bool) (l:List (T.den E)) (cs:List C),Le c=some id->e∈st.so->e.id=id->Fh id=dp->C4 id=false->e.toE=⟨id,some (E,T.sz E,l.length),cs,true⟩->
  qd st [⟨dp,E,T.sz E,l.length,cs⟩] [id] 1/\ ∀ (pre post:List Ah) (w:World) (G:AG) (v:Value),Ad w G c.toC v->Ad w G (PC.toC (pre++([id]++post)) (.o pre.length)) v:=by
  intro E id e dp l cs ho hm hid hd hmk hE;refine⟨⟨⟨rfl,rfl⟩,by simp [KX,hd,hmk],fun x hx=>?_⟩,fun pre post w G v h=>?_⟩
  ·simp only [CZ,List.mem_singleton]at hx;subst hx;have:(⟨dp,E,T.sz E,l.length,cs⟩:OE).ent id=e.toE:=by rw [hE];rfl
   rw [this];exact List.mem_map.2 ⟨e,hm,rfl⟩
  ·simp only [PC.toC,yM];rw [Es ho]at h;grind [DC.toC]
 unfold Acn;cases k with
 | l_ E=>
   match m with
   | 0=>exact fr (.l_ E) c (fun _=>rfl) rfl
   | _+3=>exact fr (.l_ E) c (fun _=>rfl) rfl
   | 1=>
     simp only;split
     ·rename_i id ho;split
      ·rename_i E' l hr;refine Yl.M_ (Yl.sm fun x hx=>hx) fun l' hl=>Yl.ret ?_;obtain⟨e,rfl⟩:=Kr hl;subst e;obtain⟨h1,_,d,h2,h3,h4⟩:=BN hr;have hE:=DE.toE_row h4;rw [h3]at hE;exact own E' id d false l _ ho h2 h3 (FG h1) (by
        have:=hw;unfold DG Af.look at hr;cases hq:C4 id with
        | false=>rfl
        | true=>simp [hq]at hr) hE
      ·exact Yl.no
     ·exact Yl.no
   | 2=>
     simp only;split
     ·rename_i id ho;split
      ·rename_i E' n l hr;refine Yl.opt fun u hu=>Yl.M_ (Yl.sm fun x hx=>hx) fun l' hl=>Yl.ret ?_;obtain⟨e,rfl⟩:=Kr hl;subst e;obtain⟨h1,h1',d,h2,h3,h4⟩:=n7 hr;have hn:n=(l.length:Int):=Cm hu;have hE:d.toE=⟨id,some (E',T.sz E',l.length),AC T E' (List.length l:Nat) 0 l,true⟩:=by unfold DE.toE;rw [h4,h3];subst hn;rfl
       exact own E' id d true l _ ho h2 h3 h1 h1' hE
      ·exact Yl.no
     ·exact Yl.no
 | int k=>exact fr (.int k) c (fun _=>rfl) rfl
 | bool=>exact fr .bool c (fun _=>rfl) rfl
 | str=>exact fr .str c (fun _=>rfl) rfl
theorem j9 {st:Af T} {H:As T} (hw:AH H st): ∀ (ms:List Nat) (ks:List Kd) (cs:List (DC T)),Yl (Aco st ms ks cs) (fun a=>qd st (Ct ms ks a.1) a.2 (Fw ms ks)/\
 ∀ (pre post:List Ah) (w:World) (G:AG) (vs:List Value),Aj w G (Ar cs) vs->Aj w G ((Fv ms pre.length ks a.1).map (PC.toC (pre++(a.2++post)))) vs)
 | [],[],[]=>Yl.ret ⟨qd.nil,(by grind [Ar,Fv])⟩
 | _::_,[],[]=>Yl.ret ⟨qd.nil,(by grind [Ar,Fv])⟩
 | m::ms,k::ks,c::cs=>Yl.M_ (ut hw m k c) fun a ha=>Yl.M_ (j9 hw ms ks cs) fun b hb=>Yl.ret (by
   refine⟨ha.1.append hb.1,fun pre post w G vs h=>?_⟩;cases vs with
   | nil=>simp [Ar,Aj]at h
   | cons v vs=>
     simp only [Ar,Aj]at h;simp only [Fv,map_cons,Aj];have h2:=hb.2 (pre++a.2) post w G vs h.2;rw [length_append,ha.1.len.2]at h2;grind)
 | [],k::ks,c::cs=>Yl.M_ ur fun a ha=>Yl.M_ (j9 hw [] ks cs) fun b hb=>Yl.ret (by
   refine⟨hb.1,fun pre post w G vs h=>?_⟩;cases vs<;>grind [Ar,Aj,Fv,PC.toC])
 | [],[],_::_=>Yl.no
 | _::_,[],_::_=>Yl.no
 | [],_::_,[]=>Yl.no
 | _::_,_::_,[]=>Yl.no
theorem YH {st:Af T} {H:As T} (hw:AH H st) (m:List Nat) (t:VT) (v:DV T):Yl (rP st m t v) (fun a=>qd st (Ct m (Fi T t) (O8 t a.1)) a.2 (Fw m (Fi T t))/\
 ∀ (pre post:List Ah) (w:World) (G:AG) (u:Value),Ab w G v.toV u->Ab w G ((I9 m pre.length t a.1).toV (pre++(a.2++post))) u):=by
 cases t with
 | k kd=>
   simp only [rP];split
   ·rename_i c hc;rw [Z2 hc];refine(ut hw (m.headD 0) kd c).mono fun a ⟨h1,h2⟩=>?_;have e1:Ct m [kd] ((a.1,()):DK T.den [kd])=Ko (m.headD 0) kd a.1:=by
     cases m with
     | nil=>simp only [Ct,headD_nil];unfold Ko;grind
     | cons x m=>grind [Ct]
    have e2:Fw m [kd]=QF (m.headD 0) kd:=by
     cases m with
     | nil=>simp only [Fw,headD_nil];unfold QF;grind
     | cons x m=>cases m<;>simp [Fw]
    refine⟨by show qd st (Ct m [kd] ((a.1,()):DK T.den [kd])) a.2 (Fw m [kd]);grind,fun pre post w G u h=>?_⟩;grind [DV.toV,Ab,I9,PP.toV]
   ·exact Yl.no
 | s E=>
   simp only [rP];split
   ·rename_i cs hc;rw [Z3 hc];refine Yl.M_ (j9 hw m (T.ks E) cs) fun a ⟨h1,h2⟩=>Yl.ret ⟨?_,fun pre post w G u h=>?_⟩
    ·simp only [Fi,O8,T.afv];exact h1
    ·simp only [DV.toV,Ab]at h;obtain⟨arr,e,h⟩:=h;simp only [I9,PP.toV,Ab,T.afv];grind
   ·exact Yl.no
 | f g=>exact Yl.no
theorem kf {P:Program} {st:Af T} {H:As T} (hw:AH H st): ∀ (ow:List (List Nat)) (ts:List VT) (xs:List ResultVar),Yl (wO P st ow ts xs) (fun a=>(CI P st.toSt xs).1/\(∃ n,qd st (Dm ow ts a.1) a.2 n)/\xs.length=ts.length/\
 ∀ (pre post:List Ah) (w:World) (G:AG) (us:List Value),Aq w G (CI P st.toSt xs).2 us->Aq w G ((B4 ow pre.length ts a.1).map (PP.toV (pre++(a.2++post)))) us)
 | m::ms,[t],[x]=>Yl.M_ (Kq hw x) fun v hv=>(YH hw m t v).mono fun a ha=>by obtain⟨v1,v2,v3⟩:=hv;refine⟨⟨v2,trivial⟩,(by grind [Dm]),rfl,fun pre post w G us h=>?_⟩;simp only [CI,Aq]at h;obtain⟨u,r,rfl,h1,rfl⟩:=h;rw [v3]at h1;simp only [B4,map_cons,map_nil,Aq];grind
 | [],[t],[x]=>Yl.M_ (Kq hw x) fun v hv=>(YH hw [] t v).mono fun a ha=>by obtain⟨v1,v2,v3⟩:=hv;have e1:Ct [] (Fi T t) (O8 t a.1)=[]:=Ku _ _;rw [e1]at ha;refine⟨⟨v2,trivial⟩,(by grind [Dm]),rfl,fun pre post w G us h=>?_⟩;simp only [CI,Aq]at h;obtain⟨u,r,rfl,h1,rfl⟩:=h;rw [v3]at h1;simp only [B4,map_cons,map_nil,Aq];grind
 | m::ms,t::u::ts,x::xs=>Yl.M_ (Kq hw x) fun v hv=>Yl.M_ (YH hw m t v) fun a ha=>Yl.M_ (kf hw ms (u::ts) xs) fun b hb=>Yl.ret (by
   obtain⟨v1,v2,v3⟩:=hv;obtain⟨b1,⟨n,b2⟩,b3,b4⟩:=hb;refine⟨⟨v2,b1⟩,⟨_,by simp only [Dm];exact ha.1.append b2⟩,by grind,fun pre post w G us h=>?_⟩;simp only [CI,Aq]at h;obtain⟨u',r,rfl,h1,h2⟩:=h;rw [v3]at h1;have h3:=b4 (pre++a.2) post w G r h2;rw [length_append,ha.1.len.2]at h3;simp only [B4,map_cons,Aq,append_assoc]at h3 ⊢;grind)
 | [],t::u::ts,x::xs=>Yl.M_ (Kq hw x) fun v hv=>Yl.M_ (YH hw [] t v) fun a ha=>Yl.M_ (kf hw [] (u::ts) xs) fun b hb=>Yl.ret (by
   obtain⟨v1,v2,v3⟩:=hv;obtain⟨b1,⟨n,b2⟩,b3,b4⟩:=hb;have e1:Ct [] (Fi T t) (O8 t a.1)=[]:=Ku _ _;have e2:Fw [] (Fi T t)=0:=wP _;rw [e1,e2]at ha;have e3:a.2=[]:=List.length_eq_zero_iff.1 ha.1.len.2;refine⟨⟨v2,b1⟩,(by grind [Dm]),by grind,fun pre post w G us h=>?_⟩;simp only [CI,Aq]at h;obtain⟨u',r,rfl,h1,h2⟩:=h;rw [v3]at h1;have h3:=b4 pre post w G r h2;have h4:=ha.2 pre (b.2++post) w G u' h1;rw [e3]at h4;simp only [B4,map_cons,Aq,e3,nil_append]at h3 h4 ⊢;grind)
 | [],[],[]=>Yl.no
 | [],[],_::_=>Yl.no
 | _::_,[],[]=>Yl.no
 | _::_,[],_::_=>Yl.no
 | [],[_],[]=>Yl.no
 | _::_,[_],[]=>Yl.no
 | [],[_],_::_::_=>Yl.no
 | _::_,[_],_::_::_=>Yl.no
 | [],_::_::_,[]=>Yl.no
 | _::_,_::_::_,[]=>Yl.no
section
variable {P:Program} {I:World->Prop}
def Aeb (P:Program) (ow:List (List Nat)) (rs:List VT) (xs:List ResultVar) (e:Exit) (st:Af T):Option (RT T rs):=match e with
 | .normal =>wO P st ow rs xs _ fun a=>match M5 a.2 with
   | true=>some a.1
   | false=>none
 | .ret =>wO P st ow rs xs _ fun a=>match M5 a.2 with
   | true=>some a.1
   | false=>none
 | _=>none
def kg (Γ:List (CE T P I)) (n:Nat) (fn:Func) (body:Code) (h:Hn) (ow:List (List Nat)) (ps rs:List VT) (x:XS T ps):Option (RT T rs):=
 match Nat.ble (Mr ps x).length fn.ntmps with
 | true=>LN Γ (zB Γ n) body h (aY (Mr ps x) fn.ntmps) (RT T rs) (Aeb P ow rs fn.results.toList)
 | false=>none
theorem zD (m:Nat) (k:Kd) (x:P6 T.den k):(PC.c (Bm T.enc k x)).ok m=true:=by have:=Dh (T:=T) (.k k) x;grind [Ev,V.pure,PC.ok]
theorem n8 (m j:Nat) (k:Kd) (x:P6 T.den k) (M:Nat) (h:j+QF m k<=M):(QO m j k x).ok M=true:=by grind [QO,zD,PC.ok,Nat.blt_eq]
theorem aZ: ∀ (ms:List Nat) (j:Nat) (ks:List Kd) (x:DK T.den ks) (M:Nat),j+Fw ms ks<=M->(Fv ms j ks x).all (PC.ok M)=true
 | [],_,[],_,_,_=>rfl
 | _::_,_,[],_,_,_=>rfl
 | [],j,k::ks,x,M,h=>by
   have e:Fw [] ks=0:=by cases ks<;>rfl
   simp only [Fv,all_cons,zD,Bool.true_and];exact aZ [] j ks x.2 M (by simp only [Fw]at h;omega)
 | m::ms,j,k::ks,x,M,h=>by simp only [Fw]at h;simp only [Fv,all_cons,and_eq_true];exact⟨n8 m j k x.1 M (by omega),aZ ms (j+QF m k) ks x.2 M (by omega)⟩
theorem S5 (m:List Nat) (j:Nat) (t:VT) (x:Eu T t) (M:Nat) (h:j+Fw m (Fi T t)<=M):(I9 m j t x).ok M=true:=by
 cases t with
 | k kd=>
   simp only [I9,PP.ok];refine n8 _ _ _ _ _ ?_;cases m with
   | nil=>simp only [headD_nil];unfold QF;grind
   | cons a m=>grind [Fi,Fw]
 | s E=>exact aZ _ _ _ _ _ h
 | f g=>rfl
theorem RO (ms:List Nat) (ks:List Kd) (x:DK T.den ks):(Ct ms ks x).length =Fw ms ks:=by obtain⟨a,b⟩:=Ng ms 0 [] ks x;rw [a,b]
theorem a6: ∀ (ow:List (List Nat)) (j:Nat) (ts:List VT) (x:RT T ts) (M:Nat),j+(Dm ow ts x).length <=M->(B4 ow j ts x).all (PP.ok M)=true
 | [],_,[],_,_,_=>rfl
 | _::_,_,[],_,_,_=>rfl
 | [],j,[t],x,M,h=>by simp only [B4,all_cons,all_nil,Bool.and_true];grind [S5,Fw]
 | m::ms,j,[t],x,M,h=>by simp only [B4,all_cons,all_nil,Bool.and_true];grind [Dm,RO,S5]
 | [],j,t::u::ts,x,M,h=>by
   simp only [B4,all_cons,and_eq_true]
   exact⟨S5 [] j t x.1 M (by have:Fw [] (Fi T t)=0:=by cases Fi T t<;>rfl
                             omega),a6 [] j (u::ts) x.2 M (by have e:Dm [] (u::ts) x.2=[]:=by cases ts<;>rfl
                                                              rw [e];simp only [List.length_nil];omega)⟩
 | m::ms,j,t::u::ts,x,M,h=>by simp only [Dm,length_append,RO]at h;simp only [B4,all_cons,and_eq_true];exact⟨S5 m j t x.1 M (by omega),a6 ms _ (u::ts) x.2 M (by omega)⟩
theorem gX {P:Program} {st:St} {xs:List ResultVar} {w:World} {G:AG} {v:Value} {ps:List PP} {ids:List Ah} (hl:ps.length=xs.length) (hs:(CI P st xs).1) (h: ∀ us,Aq w G (CI P st xs).2 us->Aq w G (ps.map (PP.toV ids)) us):(CA P st xs).1/\(Ab w G (CA P st xs).2 v->Ab w G (OF ids ps) v):=by
 match xs,ps,hl,hs,h with
 | [x],[p],_,hs,h=>
   refine⟨hs.1,fun hv=>?_⟩;have:=h [v] (by simp only [CI,Aq];exact⟨v,[],rfl,hv,rfl⟩);simp only [map_cons,map_nil,Aq]at this;obtain⟨v',r,e,h1,rfl⟩:=this;injection e with e _;subst e;exact h1
 | [],[],_,hs,h=>simp_all [CA,CI,OF]
 | x::y::xs,p::q::ps,_,hs,h=>
   grind [CA,Ab,OF]
theorem GG: ∀ (ow:List (List Nat)) (j:Nat) (ts:List VT) (x:RT T ts),(B4 ow j ts x).length =ts.length
 | [],_,[],_=>rfl
 | _::_,_,[],_=>rfl
 | [],j,[t],x=>rfl
 | m::ms,j,[t],x=>rfl
 | [],j,t::u::ts,x=>by simp only [B4,length_cons,GG [] j (u::ts) x.2]
 | m::ms,j,t::u::ts,x=>by simp only [B4,length_cons,GG ms _ (u::ts) x.2]
theorem zE {Γ:List (CE T P I)} (ahw:J8 I) (ab5:P.follows .mixedOrders =true) {n:Nat} {f:FuncId} {fn:Func} {body:Code} (hf:P.funcs[f]? =some fn) (hb:fn.body=some body) (abr:PL.ent P f=true) {h:Hn} {ow:List (List Nat)} {ps rs:List VT} {x:XS T ps} {r:RT T rs}
 (hr:kg Γ n fn body h ow ps rs x=some r):M8 P I f (Gf ps x) (Dm ow rs r) (B4 ow 0 rs r):=by
 unfold kg at hr;split at hr
 ·rename_i hl;obtain⟨H,hw⟩:=gU (args:=Mr ps x) (n:=fn.ntmps) (fun H=>aX ps x);refine M8.of ahw abr hf hb (a6 _ _ _ _ _ (by simp)) fun F hI=>?_;rw [<-VA, <-Xo (by simp_all)];refine FI ab5 (j8 ab5 n) body h _ H _ _ r hw hr F _ hI fun H' e an n q=>?_;have fin:wO P an ow rs fn.results.toList _ (fun a=>match M5 a.2 with | true=>some a.1 | false=>none)=some r->Ahm P an.toSt fn.results.toList (Dm ow rs r) (B4 ow 0 rs r):=by
   intro q;obtain⟨a,⟨h1,⟨k,h2⟩,h3,h4⟩,h5⟩:=kf n.ok ow rs fn.results.toList _ _ r q;split at h5
   ·rename_i hnd;injection h5 with h5;subst h5;have hlen:(B4 ow 0 rs a.1).length =fn.results.toList.length:=by rw [GG];omega
    refine⟨a.2,h2.ns,Ii hnd,(gX (w:=default) (G:=im fun _=>False) (v:=Go.undef) (ids:=a.2) hlen h1 (fun us hu=>?_)).1,fun w G v hv=>(gX hlen h1 (fun us hu=>?_)).2 hv,h2.so⟩
    ·have:=h4 [] [] _ _ us hu;grind
    ·have:=h4 [] [] _ _ us hu;grind
   ·cases h5
  cases e<;>simp only [Aeb]at q ⊢ <;>first
   | grind
   | grind
 ·cases hr
theorem n9 {pre:List OE} {n:OE} {post:List OE}:(pre++([n]++post))[pre.length]? =some n:=by simp
theorem gY (m:Nat) (k:Kd) (x:P6 T.den k) (pre post:List OE):(QO m pre.length k x).frz (pre++(Ko m k x++post))=Bm T.enc k x:=by
 cases k with
 | l_ E=>
   match m with
   | 0=>rfl
   | _+3=>rfl
   | 1=>
     show PC.frz _ (.o pre.length)=_;simp only [PC.frz,Ko,n9];rfl
   | 2=>
     show PC.frz _ (.o pre.length)=_;simp only [PC.frz,Ko,n9,OE.frz];exact congrArg (C.sl _) (RI E _ 0 x)
 | _=>rfl
theorem VB: ∀ (ms:List Nat) (ks:List Kd) (x:DK T.den ks) (pre post:List OE),(Fv ms pre.length ks x).map (PC.frz (pre++(Ct ms ks x++post)))=BG T.enc ks x
 | [],[],_,_,_=>by simp [Fv,BG]
 | _::_,[],_,_,_=>by simp [Fv,BG]
 | [],k::ks,x,pre,post=>by have:=VB [] ks x.2 pre post;rw [Ku]at this ⊢;simp only [Fv,map_cons,BG,PC.frz,this]
 | m::ms,k::ks,x,pre,post=>by have h1:=gY m k x.1 pre (Ct ms ks x.2++post);have h2:=VB ms ks x.2 (pre++Ko m k x.1) post;rw [length_append,(Mo m [] k x.1).1,(Mo m [] k x.1).2]at h2;grind [Fv,Ct,BG]
theorem Qg (m:List Nat) (t:VT) (x:Eu T t) (pre post:List OE):(I9 m pre.length t x).frz (pre++(Ct m (Fi T t) (O8 t x)++post))=Ev t x:=by
 cases t with
 | k kd=>
   simp only [I9,PP.frz,Ev,Fi,O8];have e1:Ct m [kd] ((x,()):DK T.den [kd])=Ko (m.headD 0) kd x:=by
    cases m with
    | nil=>simp only [Ct,headD_nil];unfold Ko;cases kd<;>rfl
    | cons y m=>grind [Ct]
   rw [e1];exact congrArg V.c (gY (m.headD 0) kd x pre post)
 | s E=>
   simp only [I9,PP.frz,Ev,Fi,O8,VB];exact congrArg V.agg (T.aa2 E x)
 | f g=>rfl
theorem VC: ∀ (ow:List (List Nat)) (ts:List VT) (x:RT T ts) (pre post:List OE),(B4 ow pre.length ts x).map (PP.frz (pre++(Dm ow ts x++post)))=Cs ts x
 | [],[],_,_,_=>by simp [B4,Cs]
 | _::_,[],_,_,_=>by simp [B4,Cs]
 | [],[t],x,pre,post=>by have:=Qg [] t x pre post;grind [Ku,B4,Dm,Cs]
 | m::ms,[t],x,pre,post=>by grind [Qg,B4,Dm,Cs]
 | [],t::u::ts,x,pre,post=>by
   have h1:=Qg [] t x.1 pre post;rw [Ku]at h1;have e:Dm [] (u::ts) x.2=[]:=by cases ts<;>rfl
   have h2:=VC [] (u::ts) x.2 pre post;rw [e]at h2;simp only [B4,Dm,map_cons,Cs,h1,h2]
 | m::ms,t::u::ts,x,pre,post=>by have h1:=Qg m t x.1 pre (Dm ms (u::ts) x.2++post);have h2:=VC ms (u::ts) x.2 (pre++Ct m (Fi T t) (O8 t x.1)) post;grind [RO,B4,Dm,Cs]
theorem oa (ow:List (List Nat)) (ts:List VT) (x:RT T ts):vZ (Dm ow ts x) (B4 ow 0 ts x)=Ji ts x:=by
 have h:=VC ow ts x [] [];simp only [List.length_nil,nil_append,List.append_nil]at h;unfold vZ
 match ts,x,h with
 | [],x,h=>
   grind [Ji,Cs]
 | [t],x,h=>
   split
   ·rename_i p hp;rw [hp]at h;simp only [map_cons,map_nil,Cs,List.cons.injEq,and_true]at h;exact h
   ·rename_i Tj;have:=GG (T:=T) ow 0 [t] x
    match hp:B4 ow 0 [t] x,this,Tj with
    | [p],_,Tj=>grind
    | [],h,_=>cases h
    | _::_::_,h,_=>simp at h
 | t::u::ts,x,h=>
   grind [GG,Ji]
def AjH (Γ:List (CE T P I)) (ahw:J8 I) (ab5:P.follows .mixedOrders =true) (n:Nat) (f:FuncId) (fn:Func) (body:Code) (h:Hn) (ow:List (List Nat)) (ps rs:List VT) (run:XS T ps->Option (RT T rs)) (hf:P.funcs[f]? =some fn) (hb:fn.body=some body)
    (heq:run=kg Γ n fn body h ow ps rs) (abr:PL.ent P f=true:=by kernel_rfl):CE T P I where
 f:=f
 ps:=ps
 rs:=rs
 run:=run
 ok:=fun x r q=>by have hx:=zE (h:=h) ahw ab5 hf hb abr (heq▸q);have:=hx.flat (by rw [oa];exact gW _ _);rwa [oa]at this
 ow:=ow
 okx:=fun _ x r q=>zE (h:=h) ahw ab5 hf hb abr (by rw [<-heq];exact q)
end
end Go.PL
namespace Go.PL
open Go Go.RowKit
variable {T:Bo}
theorem B1.x {P:Program} {I:World->Prop} {f:FuncId} {args:List V} {E n L:Nat} {CS:List C} (h:B1 P I f args E n (fun len cs=>len=L/\cs=CS)):M8 P I f args [⟨false,E,n,L,CS⟩] [.c (.o 0)]:=by
 refine⟨h.ent,rfl,fun w vs av hI hav hr=>(h.run w vs av hI hav hr).mono ?_⟩;rintro e w' ⟨v,len,cs,us,he,⟨q1,q2⟩,hp,hl,hv,hb⟩;subst q1 q2;obtain⟨ob,hfr,acW,hv⟩: ∃ ob:Option Nat,(∀ b,ob=some b->w.heap.size<=b/\b<w'.heap.size)/\v.oneCell'=true/\((∃ p,v= .slice p 0 0/\len=0/\ob=none)\/(ob=v.ownBlock/\Aj w' (im fun b=>av b\/v.ownBlock=some b) cs us/\w'.ownsRow w.heap.size E n v len us)):=by
  rcases hv with ⟨p,q1,q2⟩ | ⟨hrl,aam⟩
  ·exact⟨none,(by grind),by rw [q1];rfl,(by grind)⟩
  ·refine⟨v.ownBlock,fun b hb'=>aam.lt b hb',?_,(by grind)⟩;rcases aam.2 with ⟨q,_⟩ | ⟨g,cap,cur,q,_⟩<;>rw [q]<;>rfl
 let G:AG:=⟨fun i=>if i=[0]then ob else none,fun i=>if i=[0]then some v else none,fun b=>av b\/ob=some b⟩;have abD: ∀ i b,G.m_ i=some b->i=[0]/\ob=some b:=(by grind);refine⟨v,[[0]],G,he,rfl,by simp,?_,?_,?_,?_,?_,hb⟩
 ·grind [OF,PP.toV,PC.toC,Ab,Ad]
 ·intro e0 he0;simp only [CZ,OE.ent,List.mem_singleton]at he0;subst he0;refine⟨JX rfl ⟨hl,v,by simp [G],?_⟩,⟨rfl,fun q=>by cases q⟩,hp⟩;rcases hv with ⟨p,q1,h0,q2⟩ | ⟨q1,hrl,aam⟩
  ·grind
  ·rcases aam.2 with ⟨q,h0⟩ | ⟨g,cap,cur,q,_,k2,k3,k4,k5,k6⟩
   ·grind [Value.ownBlock]
   ·refine .inr ⟨g,cap,cur,q,by grind [Value.ownBlock],k2,k3,k4,k5,?_⟩;have hr2:Aj w' G cs us:=Aj.mono (G:=im fun b=>av b\/v.ownBlock=some b) ⟨Nat.le_refl _,fun _ _ _=>rfl,fun b _ hw=>by have hw:av b\/ob=some b:=hw;rw [q1]at hw;exact hw,fun _ _ _ _=>Cg.same rfl⟩ _ _ (fun i hi=>absurd (show BP i cs=true from hi) (by rw [AP i cs hp];simp)) hrl
    grind [An.aaA,BE,List.take_append_drop]
 ·grind
 ·grind
 ·intro b;constructor
  ·rintro(q | q)
   ·exact .inl q
   ·exact .inr ⟨[0],by grind⟩
  grind
def a7 {P:Program} {I:World->Prop} (f:FuncId) (ps:List VT) (E:Nat) (run:XS T ps->Option (RT T [.k (.l_ E)])) (h: ∀ x r,run x=some r->B1 P I f (Gf ps x) E (T.sz E) (fun len cs=>len=List.length (α:=T.den E) r/\cs=List.flatMap (T.enc E) r)):CE T P I where
 f:=f
 ps:=ps
 rs:=[.k (.l_ E)]
 run:=run
 ok:=fun x r hr=>B1.flat (h x r hr)
 ow:=[[1]]
 okx:=fun _ x r hr=>(h x r hr).x
end Go.PL
namespace Go.PL
open Go Go.RowKit Go.Proofs
theorem Dp (b:Nat): ∀ (vs:List Value) (o:Nat) (w:World),(w.setCells b o vs).heap.size =w.heap.size/\(w.setCells b o vs).os =w.os/\(w.setCells b o vs).tape =w.tape/\(w.setCells b o vs).output =w.output/\
 ∀ k,k ≠ b->(w.setCells b o vs).heap[k]? =w.heap[k]?
 | [],_,_=>⟨rfl,rfl,rfl,rfl,fun _ _=>rfl⟩
 | v::r,o,w=>by obtain⟨a1,a2,a3,a4,a5⟩:=Dp b r (o+1) (w.setCell ⟨b,o,none⟩ v);rw [World.setCells];refine⟨a1.trans (by simp),a2,a3,a4,fun k hk=>(a5 k hk).trans ?_⟩;simp [World.setCell,Array.getElem?_modify,Ne.symm hk]
theorem D0 (b:Nat): ∀ (vs:List Value) (o:Nat) (w:World) (cur:Array Value) (T:TypeId) (fz:Nat×Nat),w.heap[b]? =some (.cells cur T fz)->o+vs.length<=cur.size->
 ∃ adG,(w.setCells b o vs).heap[b]? =some (.cells adG T fz)/\adG.toList=cur.toList.take o++vs++cur.toList.drop (o+vs.length)
 | [],o,w,cur,T,fz,h,_=>⟨cur,h,by simp⟩
 | v::r,o,w,cur,T,fz,h,hl=>by
   simp only [length_cons]at hl;have h1:(w.setCell ⟨b,o,none⟩ v).heap[b]? =some (.cells (cur.setIfInBounds o v) T fz):=by grind [World.setCell]
   obtain⟨adG,g1,g2⟩:=D0 b r (o+1) _ _ T fz h1 (by simp;omega);refine⟨adG,g1,g2.trans ?_⟩;have ho:o<cur.toList.length:=by simp;omega
   rw [Array.toList_setIfInBounds,List.take_set,List.drop_set_of_lt (by omega),length_cons];rw [List.take_succ_eq_append_getElem ho];rw [List.set_append_right _ _ (by simp;omega)];simp only [List.length_take,Nat.min_eq_left (Nat.le_of_lt ho),Nat.sub_self,List.set_cons_zero,append_assoc,List.cons_append,nil_append];grind
theorem wQ {α:Type} {A cs vs R:List α} {i m n:Nat} (hA:A.take i=cs.take i) (hi:i<=n) (hc:cs.length=n) (hv:vs.length=m) (hl:n+m<=A.length):
 (((A.take (i+m)++cs.drop i++R).take i++vs++(A.take (i+m)++cs.drop i++R).drop (i+m)).take (n+m))=cs.take i++vs++cs.drop i:=by
 have l1:(A.take (i+m)).length =i+m:=by grind
 have e1:(A.take (i+m)++cs.drop i++R).take i=cs.take i:=by grind
 have e2:(A.take (i+m)++cs.drop i++R).drop (i+m)=cs.drop i++R:=by grind
 rw [e1,e2, <-append_assoc];have l2:(cs.take i++vs++cs.drop i).length =n+m:=by grind
 grind
theorem wR {α:Type} {A cs vs R:List α} {i m n:Nat} (hA:A.take i=cs.take i) (hi:i<=n) (hc:cs.length=n) (hv:vs.length=m) (hl:n+m<=A.length):
 (((A.take i++vs++A.drop (i+m)).take (i+m)++cs.drop i++R).take (n+m))=cs.take i++vs++cs.drop i:=by
 have l1:(cs.take i++vs).length =i+m:=by grind
 rw [hA];have e1:(cs.take i++vs++A.drop (i+m)).take (i+m)=cs.take i++vs:=by grind
 rw [e1];have l2:(cs.take i++vs++cs.drop i).length =n+m:=by grind
 grind
theorem W7.of {P:Program} {ρ:Go.Shelf.Ren} (L:Lays2.n21 P ρ):W7 P (ρ.f 21) (ρ.t 3):=by
 intro w v n i vb m vc xs us cur T row hv hin hm ox ou hul amR hmv hvc Tj hvb hvs;have hus: ∀ j u,us[j]? =some u->w.cell? ⟨vb,0+j,none⟩=some u:=by grind [World.cell?]
 have hvl:=hul;have grow: ∀ (base:Option Addr) (c:Nat),i=n->v= .slice base n c->n<=c->c<n+m->(base=none->n=0)->xs.length=n->(∀ a,base=some a-> ∀ j u,xs[j]? =some u->w.cell? (a.add j)=some u)->
  Calls P (ρ.f 21) #[v, .int .i64 i, .slice (some ⟨vb,0,none⟩) m vc] w fun e w'=> ∃ v',e= .returned v'/\w'.ownsRow 0 (ρ.t 3) 1 v' (n+m) (xs.take i++us++xs.drop i)/\
   w.grownBy w' row/\(v'.ownBlock=row\/ ∀ b,v'.ownBlock=some b->w.heap.size<=b):=by
  intro base c hi hv hnc hc hb hx hcs;subst hi hv;refine(Any2.slices_Insert_int_end_grow L base i c vb 0 m vc xs us w hm hnc hc amR (by simpa using hx) hvl hb hcs hus ou).mono fun e w' ⟨he,hw⟩=>?_;refine⟨_,he,?_,?_,(by grind [Value.ownBlock])⟩
  ·rw [hw];have hge:=grownCap_ge w (i+m) c (ρ.t 3);refine⟨by simp;omega, .inr ⟨w.heap.size,_,_,rfl,zero_le _,heap_alloc_new w.drew _,hge,(by grind [grownCap_le_maxLen,maxLen]),?_,?_⟩⟩
   ·grind [Builtin.zeroCells,Value.cells]
   grind
  ·rw [hw];exact⟨rfl,rfl,rfl,by simp,fun k hk _=>heap_alloc_old w.drew _ hk⟩
 rcases hv with ⟨aam,z_⟩ | ⟨p,hv,hn,hx,z_⟩
 ·rcases aam.2 with ⟨hv,hn⟩ | ⟨g,cap,cu,hv,hbg,hg,hnc,hcm,hcs,aqC⟩
  ·exact grow none 0 (by omega) (by rw [hv,hn]) (by omega) (by omega) (fun _=>hn) (by have:=aam.1;grind) (by grind)
  ·have hx:xs.length=n:=by grind
   have aeZ:row=some g:=by rw [z_,hv];rfl
   have adF:vb ≠ g:=(by grind);simp only [mul_one]at hcs aqC;have abH: ∀ j u,xs[j]? =some u->w.cell? ((⟨g,0,none⟩:Addr).add j)=some u:=aam.cells (g:=g) (by rw [hv];rfl);have aod: ∀ j u,xs[j]? =some u->w.cell? ⟨g,0+j,none⟩=some u:=(by grind [Addr.add_lit]);have auN: ∀ j,j<cap->(w.cell? ⟨g,j,none⟩).isSome =true:=(by grind [World.cell?]);have hfz: ∀ j,w.frozen? ⟨g,j,none⟩=false:=(by grind [World.frozen?]);have hfv: ∀ j,w.frozen? ⟨vb,j,none⟩=false:=(by grind [World.frozen?]);have finish: ∀ (w':World) (c':Array Value),w'.heap[g]? =some (.cells c' (ρ.t 3) (0,0))->c'.toList.length=cap->n+m<=cap->c'.toList.take (n+m)=(xs.take i++us++xs.drop i)->
    w'.ownsRow 0 (ρ.t 3) 1 (.slice (some ⟨g,0,none⟩) (n+m) cap) (n+m) (xs.take i++us++xs.drop i):=fun w' c' h1 h2 h3 h4=>
    ⟨by simp;omega, .inr ⟨g,cap,c',rfl,zero_le _,h1,h3,hcm,by simpa using h2,by simpa using h4⟩⟩
   by_cases ai4:n+m<=cap
   ·by_cases hi:i=n
    ·subst hi hv;refine(Any2.slices_Insert_int_end_room L g 0 i cap vb 0 m vc us w hm ai4 (by unfold maxLen at hcm;omega) hvl (fun j hj=>auN _ (by omega)) (fun j _=>hfz _) hus ou).mono fun e w' ⟨he,hw⟩=>?_;obtain⟨f1,f2,f3,f4,f5⟩:=Dp g us (0+i) w;obtain⟨c',g1,g2⟩:=D0 g us (0+i) w cu _ _ hg (by rw [hvl];omega);rw [<-hw]at f1 f2 f3 f4 f5 g1;refine⟨_,he,(by grind),⟨f2,f3,f4,by omega,(by grind)⟩, .inl (by rw [aeZ];rfl)⟩
     all_goals grind
    ·subst hv;refine(Any2.slices_Insert_int_shift L g 0 n cap i vb 0 m vc xs us w (by omega) hm ai4 (by grind [maxLen]) adF (by grind) hvl aod (by grind) (fun j _=>hfz _) hus ox ou
      T (ρ.t 3) vc cap (by grind [World.shape?]) (by grind [World.shape?]) (by omega) (hfv _) (hfv _)).mono fun e w' ⟨he,hw⟩=>?_
     have hdl:(xs.drop i).length =n - i:=by grind
     obtain⟨f1,f2,f3,f4,f5⟩:=Dp g (xs.drop i) (0+(i+m)) w.drew;obtain⟨c1,g1,g2⟩:=D0 g (xs.drop i) (0+(i+m)) w.drew cu _ _ hg (by grind);obtain⟨k1,k2,k3,k4,k5⟩:=Dp g us (0+i) (w.drew.setCells g (0+(i+m)) (xs.drop i));have hc1:c1.toList.length=cap:=by grind
     obtain⟨c2,e1,e2⟩:=D0 g us (0+i) _ c1 _ _ g1 (by grind);rw [<-hw]at k1 k2 k3 k4 k5 e1;refine⟨_,he,finish w' c2 e1 ?_ ai4 ?_,⟨k2.trans f2,k3.trans f3,k4.trans f4,by simp_all,fun k _ hk=>(k5 k fun q=>hk (by rw [aeZ,q])).trans (f5 k fun q=>hk (by rw [aeZ,q]))⟩, .inl (by rw [aeZ];rfl)⟩
     ·rw [e2];simp only [length_append,List.length_take,List.length_drop];omega
     ·rw [e2,g2,Nat.zero_add,Nat.zero_add,hvl];rw [wQ (A:=cu.toList) (cs:=xs) (by grind) (by omega) (by grind) hvl (by simp;omega)]
   ·by_cases hi:i=n
    ·grind
    ·subst hv;refine(Any2.slices_Insert_int_grow L g 0 n cap i vb 0 m vc xs us w (by omega) hm hnc (by omega) amR (by grind) hvl aod hus ox ou).mono fun e w' ⟨he,hw⟩=>?_;have hge:=grownCap_ge w (n+m) cap (ρ.t 3);have avn:=grownCap_le_maxLen w (n+m) cap (ρ.t 3) (by unfold maxLen;omega);obtain⟨C,hC⟩: ∃ C,C=grownCap w (n+m) cap (ρ.t 3):=⟨_,rfl⟩;rw [<-hC]at he hw hge avn;obtain⟨ROW,avv⟩: ∃ ROW:Array Value,ROW=(xs.take i).toArray ++Builtin.zeroCells (Value.int .i64 0).cells (n+m - i)++Builtin.zeroCells (Value.int .i64 0).cells (C - (n+m)):=⟨_,rfl⟩;rw [<-avv]at hw;have hRs:ROW.size=C:=by rw [avv];simp [Builtin.zeroCells,Value.cells];omega
     have hRt:ROW.toList.take i=xs.take i:=by grind
     have h0:(w.alloc (.cells ROW (ρ.t 3))).drew.heap[w.heap.size]? =some (.cells ROW (ρ.t 3) (0,0)):=heap_alloc_new w _;obtain⟨W1,hW1⟩: ∃ W1,W1=(w.alloc (.cells ROW (ρ.t 3))).drew :=⟨_,rfl⟩;have ash:W1.heap.size=w.heap.size+1/\W1.os=w.os/\W1.tape=w.tape/\W1.output=w.output/\ ∀ k,k<w.heap.size->W1.heap[k]? =w.heap[k]? :=by rw [hW1];exact⟨by simp,rfl,rfl,rfl,fun k hk=>heap_alloc_old w _ hk⟩
     rw [<-hW1]at hw h0;have hdl:(xs.drop i).length =n - i:=by grind
     obtain⟨f1,f2,f3,f4,f5⟩:=Dp w.heap.size us i W1;obtain⟨c1,g1,g2⟩:=D0 w.heap.size us i W1 ROW _ _ h0 (by grind);obtain⟨k1,k2,k3,k4,k5⟩:=Dp w.heap.size (xs.drop i) (i+m) (W1.setCells w.heap.size i us).drew;have hc1:c1.toList.length=C:=by grind
     obtain⟨c2,e1,e2⟩:=D0 w.heap.size (xs.drop i) (i+m) (W1.setCells w.heap.size i us).drew c1 _ _ g1 (by grind);rw [<-hw]at k1 k2 k3 k4 k5 e1;refine⟨_,he,⟨by simp;omega, .inr ⟨w.heap.size,C,c2,rfl,zero_le _,e1,hge,avn,?_,?_⟩⟩,⟨k2.trans (f2.trans ash.2.1),(by simp_all),k4.trans (f4.trans ash.2.2.2.1),?_,fun k hk _=>?_⟩,(by grind [Value.ownBlock])⟩
     ·grind
     ·rw [mul_one,e2,g2,hvl];rw [wR (A:=ROW.toList) (cs:=xs) hRt (by omega) (by grind) hvl (by simp;omega)]
     ·grind
     ·rw [k5 k (by omega)];exact(f5 k (by omega)).trans (ash.2.2.2.2 k hk)
 grind
end Go.PL
namespace Go.PL
open Go
theorem A7 {x:Int} (h0: -9223372036854775808<=x) (h1:x<=9223372036854775807):Aa x=x:=by grind [Aa,IntKind.wrap_i64]
theorem Nl {x:Int} (h0:0<=x) (h1:x<=18446744073709551615):IntKind.u64.wrap x=x:=by unfold IntKind.wrap;simp only [IntKind.bits,IntKind.signed,Bool.false_and];simp;omega
theorem wS {x:Int} (h0:0<=x) (h1:x<=255):IntKind.u8.wrap x=x:=by unfold IntKind.wrap;simp only [IntKind.bits,IntKind.signed,Bool.false_and];simp;omega
theorem rQ (x:Int):0<=IntKind.u64.wrap x/\IntKind.u64.wrap x<=18446744073709551615:=by unfold IntKind.wrap;simp only [IntKind.bits,IntKind.signed,Bool.false_and];simp;omega
section
variable {σ ρ:Type} {B:σ->Option (σ⊕ρ)}
theorem CM {n:Nat} {s s':σ} (h:B s=some (.inl s')):iter B (n+1) s=iter B n s':=by simp [iter,h]
theorem Cu {n:Nat} {s:σ} {r:ρ} (h:B s=some (.inr r)):iter B (n+1) s=some r:=by simp [iter,h]
theorem oc {S:Nat->σ} {r:ρ} {j:Nat} (hs: ∀ i,i<j->B (S i)=some (.inl (S (i+1)))) (he:B (S j)=some (.inr r)): ∀ (k N i:Nat),i+k=j->k<N->iter B N (S i)=some r
 | 0,N+1,i,hi,_=>by obtain rfl:i=j:=by omega
                    exact Cu he
 | k+1,N+1,i,hi,hN=>by rw [CM (hs i (by omega))];exact oc hs he k N (i+1) (by omega) (by omega)
theorem YI (S:Nat->σ) {r:ρ} (j:Nat) (hj:j<9223372036854775807) (hs: ∀ i,i<j->B (S i)=some (.inl (S (i+1)))) (he:B (S j)=some (.inr r)) {s0:σ} (h0:s0=S 0):iter B FU s0=some r:=by subst h0;exact oc hs he j FU 0 (by omega) hj
end
section
variable {α:Type} [Inhabited α] {l:List α} {i:Int}
theorem S6 (h:0<=i/\i<l.length):idx l i=some (l.getD i.toNat default):=if_pos h
theorem BU {k:Nat} (h:k<l.length):idx l (k:Int)=some l[k]:=by grind [S6]
end
theorem od {α:Type} {b:Nat} {l m:List α} (h:(l.length+m.length)*b<=140737488355328/\l.length+m.length<=maxLen):app b l m=some (l++m):=if_pos h
theorem Iv {a b:List UInt8} (h:a.length+b.length<=maxLen):cat a b=some (a++b):=if_pos h
theorem EY {p:Prop} [Decidable p] (h:p):k_ p=some ():=if_pos h
def dgc (n:Int):UInt8:=UInt8.ofNat (48+(n.toNat % 10))
theorem Nm (k u:Nat) (h:u<10 ^ (k+1)):(Lib.decDigits u).length <=k+1:=by
 induction k generalizing u with
 | zero=>simp_all [Lib.decDigits]
 | succ k ih=>
   grind [Lib.decDigits]
theorem S7 {n:Int} (h0: -9223372036854775808<=n) (h1:n<=9223372036854775807):(Lib.itoa n).length <=21:=by
 unfold Lib.itoa;split
 ·have:=Nm 19 n.natAbs (by omega);simp;omega
 ·have:=Nm 19 n.toNat (by omega);omega
theorem oe {u:Int} (h0:0<=u):Lib.decDigits u.toNat=(if u / 10=0 then [] else Lib.decDigits (u / 10).toNat)++[dgc u]:=by
 conv=>lhs;rw [Lib.decDigits]
 by_cases h:u.toNat<10
 ·rw [dif_pos h,if_pos (by omega),dgc,Nat.mod_eq_of_lt h];rfl
 ·have e:u.toNat / 10=(u / 10).toNat :=by omega
  rw [dif_neg h,if_neg (by omega),dgc,e]
def wU (u:Int) (s:List UInt8):Option ((Int×(List UInt8))⊕((List UInt8))):=
 (if(decide ((0:Int)<u)) then
  (k_ (∀ n∈([IntKind.u8.wrap (IntKind.u64.wrap ((48:Int)+(Int.tmod u (10:Int))))]:List (Int)),0<=n/\n<256)).bind fun _=>
  (cat (Kc ([IntKind.u8.wrap (IntKind.u64.wrap ((48:Int)+(Int.tmod u (10:Int))))]:List (Int))) s).bind fun s12=>
  some (.inl ((IntKind.u64.wrap (Int.tdiv u (10:Int))),s12))
 else
  some (.inr s))
def kh (a0:Int):Option ((List UInt8)):=
 (k_ (∀ n∈([IntKind.u8.wrap (IntKind.u64.wrap ((48:Int)+(Int.tmod a0 (10:Int))))]:List (Int)),0<=n/\n<256)).bind fun _=>
 (iter (fun(v:Int×(List UInt8))=>wU v.1 v.2) FU ((IntKind.u64.wrap (Int.tdiv a0 (10:Int))),(Kc ([IntKind.u8.wrap (IntKind.u64.wrap ((48:Int)+(Int.tmod a0 (10:Int))))]:List (Int))))).bind (fun o0=>some o0)
def uu (a0:Int):Option ((List UInt8)):=
 (if(decide (a0<(0:Int))) then
  (kh (IntKind.u64.wrap (0 - (IntKind.u64.wrap (a0))))).bind fun r2=>
  (cat [45] r2).bind fun s3=>
  some s3
 else
  (kh (IntKind.u64.wrap (a0))).bind fun r4=>
  some r4)
theorem uv {u:Int} (h0:0<=u) (h1:u<=18446744073709551615):IntKind.u8.wrap (IntKind.u64.wrap ((48:Int)+(Int.tmod u (10:Int))))=48+((u.toNat % 10:Nat):Int):=by grind [Nl,wS]
theorem uw {u:Int} (h0:0<=u) (h1:u<=18446744073709551615):IntKind.u64.wrap (Int.tdiv u (10:Int))=u / 10:=by grind [Nl]
theorem og {u:Int} (h0:0<=u) (h1:u<=18446744073709551615): ∀ n∈([IntKind.u8.wrap (IntKind.u64.wrap ((48:Int)+(Int.tmod u (10:Int))))]:List (Int)),0<=n/\n<256:=by grind [uv]
theorem gZ {u:Int} (h0:0<=u) (h1:u<=18446744073709551615):Kc ([IntKind.u8.wrap (IntKind.u64.wrap ((48:Int)+(Int.tmod u (10:Int))))]:List (Int))=[dgc u]:=by grind [uv,Kc,dgc]
theorem Acq {u:Int} {s:List UInt8} (h0:0<u) (h1:u<=18446744073709551615) (hs:s.length<=1000):wU u s=some (.inl (u / 10,dgc u::s)):=by unfold wU;rw [if_pos (by simpa using h0),EY (og (by omega) h1),gZ (by omega) h1,Iv (by simp [maxLen];omega),uw (by omega) h1];rfl
theorem oh (s:List UInt8):wU 0 s=some (.inr s):=by simp [wU]
theorem ol: ∀ (k:Nat) (u:Int) (s:List UInt8) (N:Nat),0<=u->u<10 ^ k->u<=18446744073709551615->s.length+k<=1000->k<N->
 iter (fun(v:Int×(List UInt8))=>wU v.1 v.2) N (u,s)=some ((if u=0 then [] else Lib.decDigits u.toNat)++s)
 | 0,u,s,N+1,h0,h1,h2,hs,hN=>by
   obtain rfl:u=0:=by grind
   grind [Cu,oh]
 | k+1,u,s,N+1,h0,h1,h2,hs,hN=>by
   by_cases hu:u=0
   ·grind [Cu,oh]
   ·rw [CM (s':=(u / 10,dgc u::s)) (Acq (by omega) h2 (by show s.length<=1000;omega)),ol k (u / 10) (dgc u::s) N (by omega) (by grind) (by omega) (by simp;omega) (by omega)];simp_all [oe]
theorem hH {u:Int} (h0:0<=u) (h1:u<=18446744073709551615):kh u=some (Lib.decDigits u.toNat):=by unfold kh;rw [EY (og h0 h1),gZ h0 h1,uw h0 h1];simp only [Option.bind_some];rw [ol 20 (u / 10) [dgc u] FU (by omega) (by omega) (by omega) (by simp) (by simp [FU])];grind [oe]
theorem om {n:Int} (h0: -9223372036854775808<=n) (h1:n<=9223372036854775807):uu n=some (Lib.itoa n):=by
 have wu: ∀ x:Int,IntKind.u64.wrap x=x % 18446744073709551616:=by grind [IntKind.wrap,IntKind.bits,IntKind.signed]
 unfold uu Lib.itoa;by_cases hn:n<0
 ·rw [if_pos (by simpa using hn),if_pos hn];have e:IntKind.u64.wrap (0 - IntKind.u64.wrap n)= -n:=by grind
  rw [e,hH (by omega) (by omega)];have hl:=Nm 19 (-n).toNat (by omega);grind [Iv,maxLen]
 ·rw [if_neg (by simpa using hn),if_neg hn,Nl (by omega) (by omega),hH (by omega) (by omega)];rfl
end Go.PL
namespace Go.PL
open Go Go.RowKit Go.WideShapes Go.ChangeShapes
def KV (k:IntKind) (v:Int):Prop:=(Lit.int k v).wf =true
def okB (_:Bool):Prop:=True
def okS (v:List UInt8):Prop:=v.length<=reachBytes
def zG {α:Type} (b:Nat) (ok:α->Prop) (l:List α):Prop:=l.length*b<=reachBytes/\ ∀ y∈l,ok y
section
variable {P:Program} {t e:TypeId} {n:Nat} {cs:List C}
theorem dI {k:IntKind} (hu:P.underlying t=some (.int k)) (h:Bz P n t cs): ∃ z,cs=eI k z/\KV k z:=vy hu h
theorem dB (hu:P.underlying t=some .bool) (h:Bz P n t cs): ∃ b,cs=eB b/\okB b:=qC hu h
theorem dS (hu:P.underlying t=some .string) (h:Bz P n t cs): ∃ s,cs=eS s/\okS s:=vz hu h
theorem dL {α:Type} {enc:α->List C} {ok:α->Prop} {b:Nat} (hu:P.underlying t=some (.slice e)) (hb:P.bytesOf e=b) (hd: ∀ {n ds},Bz P n e ds-> ∃ x,ds=enc x/\ok x) (h:Bz P n t cs):
 ∃ l:List α,cs=eL enc l/\zG b ok l:=xz hu hb (fun _ _=>hd) h
theorem dA {α:Type} {m:Nat} {enc:α->List C} {ok:α->Prop} (hu:P.underlying t=some (.array m e)) (hd: ∀ {n ds},Bz P n e ds-> ∃ x,ds=enc x/\ok x) (h:Bz P n t cs):
 ∃ l:List α,l.length=m/\cs=l.flatMap enc/\ ∀ y∈l,ok y:=by
 cases n with
 | zero=>exact h.elim
 | succ n=>
   simp only [Bz,hu]at h;obtain⟨Df,rfl,h2,h3⟩:=h;obtain⟨l,rfl,h5⟩:=Zf (fun _=>hd) h3;grind
end
section
variable {R:TypeId->List C->Prop}
theorem AI {t:TypeId} {ts:List TypeId} {α β:Type} {e:α->List C} {E:β->List C} {ok:α->Prop} {OK:β->Prop} (hd: ∀ {ds},R t ds-> ∃ x,ds=e x/\ok x) (hr: ∀ {Df},UY R ts Df-> ∃ y,Df.flatten=E y/\OK y) {Df:List (List C)} (h:UY R (t::ts) Df):
 ∃ p:α×β,Df.flatten=e p.1++E p.2/\ok p.1/\OK p.2:=by
 simp only [UY]at h;obtain⟨ds,r,rfl,h1,h2⟩:=h;obtain⟨x,rfl,h3⟩:=hd h1;obtain⟨y,h4,h5⟩:=hr h2;exact⟨(x,y),by grind,h3,h5⟩
theorem Kv {Df:List (List C)} (h:UY R [] Df): ∃ _:Unit,Df.flatten=[]/\True:=by simp only [UY]at h;simp_all
end
section
variable {H:Type} {enc:TypeId×Value->H} {P:Program} {W:World} {spare:Nat->Bool} {r:Reach} {base:Nat} {t:TypeId} {v:Value} {d:DataW H} {ps:List MemPlace}
theorem rR {ts:List TypeId} {ds:List (DataW H)} (h:(DataW.weightsEach P (t::ts) (d::ds)).all (· <=reachBytes)=true):(d.weights P t).all (· <=reachBytes)=true/\(DataW.weightsEach P ts ds).all (· <=reachBytes)=true:=by simp_all [DataW.weightsEach]
theorem Acr {α:Type} {e:α->List C} {ok:α->Prop} {fs:Array Field} (k:Nat) (hk:okT P k t=true) (hu:P.underlying t=some (.struct fs)) (hd: ∀ {n cs},Bz P n t cs-> ∃ x,cs=e x/\ok x)
 (hv:Value.okWide P W r base t v) (h:DataW.Trod enc P W 0 spare true t v d ps) (hw:(d.weights P t).all (· <=reachBytes)=true): ∃ x,ok x/\Ab W (im fun _=>False) (vA e x) v:=by
 obtain⟨arr,rfl,_⟩:=okWide_struct hu hv;obtain⟨fuel,h⟩:=h;obtain⟨cs,h1,h2,_⟩:=OR (G:=im fun _=>False) (fun _ _ h=>h) k t hk fuel _ _ h hw;obtain⟨x,rfl,h4⟩:=hd h2;exact⟨x,h4,by simp only [Ab];exact⟨arr,rfl,h1⟩⟩
end
end Go.PL
namespace Go.PL
open Go
def W {α:Type} (o:Option α) (Q:α->Prop):Prop:= ∃ r,o=some r/\Q r
def LQ {σ ρ:Type} (I:σ->Prop) (m:σ->Nat) (s:σ) (K:ρ->Prop):σ⊕ρ->Prop:=Sum.elim (fun s'=>I s'/\m s'<m s) K
section
variable {α β σ ρ:Type} {o:Option α} {P Q':α->Prop} {f:α->Option β} {Q:β->Prop} {v:α} {g c:Bool}
theorem W.bd (h:W o P) (k: ∀ x,P x->W (f x) Q):W (o.bind f) Q:=by obtain⟨r,rfl,h2⟩:=h;exact k r h2
theorem W.lt (k: ∀ x,x=v->W (f x) Q):W ((some v).bind f) Q:=k v rfl
theorem W.if {a b:Option β} (k1:c=true->W a Q) (k2:c=false->W b Q):W (if c then a else b) Q:=by grind
theorem W.imp {Q2:α->Prop} (h:W o P) (k: ∀ x,P x->Q2 x):W o Q2:=by obtain⟨r,h1,h2⟩:=h;exact⟨r,h1,k r h2⟩
theorem a8 [Inhabited α] {l:List α} {i:Nat} (h:i<l.length):l.getD i default∈l:=by grind
theorem W.idx [Inhabited α] {l:List α} {i:Int} (h:0<=i/\i<l.length):W (idx l i) (fun e=>e∈l/\e=l.getD i.toNat default/\idx l i=some e):=
 ⟨_,S6 h,a8 (by omega),rfl,S6 h⟩
theorem W.re (h:o=some v) (k:W (f v) Q):W (o.bind f) Q:=by grind
theorem W.app {b:Nat} {l m:List α} (h:(l.length+m.length)*b<=140737488355328) (h2:l.length+m.length<=maxLen):W (app b l m) (fun e=>e=l++m):=⟨_,od ⟨h,h2⟩,rfl⟩
theorem W.cat {a b:List UInt8} (h:a.length+b.length<=9223372036854775807):W (cat a b) (fun e=>e=a++b/\e.length=a.length+b.length):=⟨_,Iv (by unfold maxLen;omega),rfl,length_append⟩
theorem W.k_ {p:Prop} [Decidable p] (h:p):W (k_ p) (fun _=>True):=⟨_,EY h,trivial⟩
theorem W.nx {I:σ->Prop} {m:σ->Nat} {s s':σ} {K:ρ->Prop} (h:I s') (h2:m s'<m s):W (some (.inl s':σ⊕ρ)) (LQ I m s K):=⟨_,rfl,h,h2⟩
theorem W.ex {I:σ->Prop} {m:σ->Nat} {s:σ} {K:ρ->Prop} {r:ρ} (h:K r):W (some (.inr r:σ⊕ρ)) (LQ I m s K):=⟨_,rfl,h⟩
theorem zH {B:σ->Option (σ⊕ρ)} {I:σ->Prop} {m:σ->Nat} {K:ρ->Prop} (hs: ∀ s,I s->W (B s) (LQ I m s K)): ∀ (n:Nat) (s:σ),I s->m s<n->W (iter B n s) K
 | 0,_,_,h=>by omega
 | n+1,s,hI,hm=>by
   obtain⟨x,h1,h2⟩:=hs s hI;cases x with
   | inl s'=>rw [CM h1];exact zH hs n s' h2.1 (by have:=h2.2;omega)
   | inr r=>rw [Cu h1];exact⟨r,rfl,h2⟩
theorem W.it {B:σ->Option (σ⊕ρ)} {f:ρ->Option β} {s0:σ} (I:σ->Prop) (m:σ->Nat) (h0:I s0) (hm:m s0<9223372036854775807) (hs: ∀ s,I s->W (B s) (LQ I m s (fun r=>W (f r) Q))):W ((iter B FU s0).bind f) Q:=by obtain⟨r,h1,h2⟩:=zH hs FU s0 h0 hm;grind
end
theorem bz:(∀ {p:Prop} [Decidable p] {b:Bool},((if p then true else b)=true)=(p\/b=true))/\(∀ {p:Prop} [Decidable p] {b:Bool},((if p then true else b)=false)=(¬p/\b=false))/\(∀ {p:Prop} [Decidable p] {b:Bool},((if p then b else false)=true)=(p/\b=true))/\(∀ {p:Prop} [Decidable p] {b:Bool},((if p then b else false)=false)=(¬p\/b=false))/\(∀ {a:Bool},((!a)=true)=(a=false))/\(∀ {a:Bool},((!a)=false)=(a=true))/\(∀ {p:Prop} [Decidable p],(decide p=true)=p)/\(∀ {p:Prop} [Decidable p],(decide p=false)= ¬p)/\(∀ {a b:Int},((a==b)=true)=(a=b))/\(∀ {a b:Int},((a==b)=false)= ¬(a=b))/\(∀ {a b:Int},((a != b)=true)= ¬(a=b))/\(∀ {a b:Int},((a != b)=false)=(a=b))/\(∀ {a:Bool},((a==true)=true)=(a=true))/\(∀ {a:Bool},((a==true)=false)=(a=false))/\(∀ {a:Bool},((a==false)=true)=(a=false))/\(∀ {a:Bool},((a==false)=false)=(a=true))/\(∀ {a b:Bool},((a&&b)=true)=(a=true/\b=true))/\(∀ {a b:Bool},((a&&b)=false)=(a=false\/b=false))/\(∀ {a b:List UInt8},((a==b)=true)=(a=b))/\(∀ {a b:List UInt8},((a==b)=false)= ¬(a=b))/\(∀ {a b:List UInt8},((a != b)=true)= ¬(a=b))/\(∀ {a b:List UInt8},((a != b)=false)=(a=b))/\(∀ {a:Bool},(¬(a=true))=(a=false))/\(∀ {a:Bool},(¬(a=false))=(a=true))/\(∀ {p q:Prop},(¬(p\/q))=(¬p/\ ¬q)):=(by simp_all)
end Go.PL
namespace Go.PL
open Go
set_option linter.all false
theorem qe (g q:Bool):gd g (some q)=some (g&&q):=by cases g<;>rfl
theorem dc (b q:Bool):(if b then q else false)=(b&&q):=by grind
theorem ba (b q:Bool):(if b then true else q)=(b||q):=by grind
theorem bT (b:Bool):(b==true)=b:=by simp_all
theorem bF (b:Bool):(b==false)= !b:=by grind
section
variable {α:Type} [Inhabited α] [DecidableEq α] {l m:List α} {B:Int->Option (Int⊕(Unit⊕Unit))}
theorem AfS (hl:l.length=m.length) (hB: ∀ (i:Nat) (h:i<l.length) (h':i<m.length),B (i:Int)=some (if l[i]=m[i]then .inl ((i:Int)+1)else .inr (.inl ()))) (hE:B (l.length:Int)=some (.inr (.inr ()))):
 ∀ (k i N:Nat),i+k=l.length->k<N->iter B N (i:Int)=some (if l.drop i=m.drop i then .inr ()else .inl ())
 | 0,i,N+1,hi,_=>by
   obtain rfl:i=l.length:=by omega
   grind [Cu]
 | k+1,i,N+1,hi,hN=>by
   have h:i<l.length:=by omega
   have h':i<m.length:=by omega
   have:=hB i h h';rw [List.drop_eq_getElem_cons h,List.drop_eq_getElem_cons h'];by_cases he:l[i]=m[i]
   ·rw [if_pos he]at this;rw [CM this];have e:((i:Int)+1)=((i+1:Nat):Int):=by omega
    rw [e,AfS hl hB hE k (i+1) N (by omega) (by omega)];grind
   ·rw [if_neg he]at this;rw [Cu this,if_neg (fun h=>he (List.cons.inj h).1)]
end
theorem AjI {α:Type} [DecidableEq α] (a b:α):(a==b)=decide (a=b):=by grind
theorem qf (b q:Bool):(if b then some false else some q)=some (!b&&q):=by grind
theorem ux (b q:Bool):(if b then some q else some false)=some (b&&q):=by grind
theorem aan (a b:Bool):(!a|| !(a&&b))=(!a|| !b):=by grind
section
variable {α:Type} [Inhabited α] [DecidableEq α] {l m:List α} {B:Int->Option (Int⊕(Unit⊕Unit))}
end
theorem RP {α:Type} [Inhabited α] (g:Bool) (x:α):gd g (some x)=some (if g then x else default):=by cases g<;>rfl
abbrev T {α:Type} (o:Option α):Prop:= ∃ r,o=some r
theorem Tif {α:Type} {c:Bool} {a b:Option α} (h1:T a) (h2:T b):T (if c then a else b):=by grind
theorem uy {α:Type} [Inhabited α] {l:List α} {i:Nat} (h:i<l.length):l.getD i default=l[i]:=by grind
theorem AhI {α:Type} {b:Nat} {l m:List α} (h:(l.length+m.length)*b<=140737488355328) (hb:1<=b):app b l m=some (l++m):=by refine od ⟨h,?_⟩;have:(l.length+m.length)*1<=(l.length+m.length)*b:=Nat.mul_le_mul_left _ hb;unfold maxLen;omega
end Go.PL
namespace Go.PL
open Go Go.Lib
set_option linter.all false
end Go.PL
namespace Go.PL
open Go
set_option linter.all false
def LB (k:Nat) (l:List (List UInt8)):Prop:=l.length<=k/\ ∀ y∈l,y.length<=600
theorem LB.nil {k:Nat}:LB k []:=⟨by simp,by simp⟩
theorem LB.le {k m:Nat} {l:List (List UInt8)} (h:LB k l) (hk:k<=m):LB m l:=⟨by have:=h.1;omega,h.2⟩
theorem LB.add {k:Nat} {l:List (List UInt8)} {x:List UInt8} (h:LB k l) (hx:x.length<=600):LB (k+1) (l++[x]):=by
 refine⟨by have:=h.1;simp;omega,fun y hy=>?_⟩;rw [List.mem_append,List.mem_singleton]at hy;rcases hy with hy | rfl
 ·exact h.2 y hy
 ·exact hx
def xr (b:Nat):Option (List UInt8)->Bool
 | some w=>Nat.ble w.length b
 | none=>false
theorem AhJ {b:Nat} {o:Option (List UInt8)} (h:xr b o=true):W o (fun r=>r.length<=b):=by
 cases o with
 | none=>cases h
 | some w=>exact⟨w,rfl,Nat.le_of_ble_eq_true h⟩
theorem wV {n b:Nat} {f:Int->Option (List UInt8)} (h:((List.range n).all fun i=>xr b (f (i:Int)))=true) {i:Nat} (hi:i<n):W (f (i:Int)) (fun r=>r.length<=b):=
 AhJ (List.all_eq_true.1 h i (List.mem_range.2 hi))
theorem rS {n b:Nat} {f:Int->Option (List UInt8)} (h:((List.range n).all fun i=>xr b (f (i:Int)))=true) {i:Int} (h0:0<=i) (hi:i<n):W (f i) (fun r=>r.length<=b):=by have:=wV h (i:=i.toNat) (by omega);rwa [Int.toNat_of_nonneg h0]at this
section
variable {α β:Type} {Q:β->Prop} {k:Nat} {l:List (List UInt8)} {x:List UInt8}
theorem zI {J:List (List UInt8)->Option β} (h:LB k l) (hx:x.length<=600) (hJ: ∀ l',LB (k+1) l'->W (J l') Q) (hk:k<=1000:=by omega):W ((app 16 l ([x]:List (List UInt8))).bind J) Q:=by have h1:=h.1;refine W.bd (W.app (b:=16) (l:=l) (m:=[x]) (by simp;omega) (by unfold maxLen;simp;omega)) (fun e he=>?_);subst he;exact hJ _ (h.add hx)
theorem rT {c:Bool} {J:List (List UInt8)->Option β} (h:LB k l) (hx:x.length<=600) (hJ: ∀ l',LB (k+1) l'->W (J l') Q) (hk:k<=1000:=by omega):W (if c then(app 16 l ([x]:List (List UInt8))).bind J else J l) Q:=
 W.if (fun _=>zI h hx hJ hk) (fun _=>hJ _ (h.le (by omega)))
theorem wTs {c:Bool} {J:List (List UInt8)->Option β} (h:LB k l) (hx:x.length<=600) (hJ: ∀ l',LB (k+1) l'->W (J l') Q) (hk:k<=1000:=by omega):W (if c then J l else(app 16 l ([x]:List (List UInt8))).bind J) Q:=
 W.if (fun _=>hJ _ (h.le (by omega))) (fun _=>zI h hx hJ hk)
theorem HD {a b:List UInt8} {f:List UInt8->Option β} (m:Nat) (h:a.length+b.length<=m) (hf: ∀ s,s.length=a.length+b.length->W (f s) Q) (hm:m<=100000000000:=by omega):W ((cat a b).bind f) Q:=
 W.bd (W.cat (by omega)) (fun s hs=>hf s hs.2)
def Rnd (i k:Nat) (r:(Int×List (List UInt8))⊕List (List UInt8)):Prop:= ∃ l',r= .inl ((i:Int)+1,l')/\LB (k+1) l'
theorem qg {i:Nat} {l':List (List UInt8)} (h:LB (k+1) l') (hi:i<=100000:=by omega):W (some (.inl (Aa ((i:Int)+1),l'))) (Rnd i k):=
 ⟨_,rfl,l',by rw [A7 (by omega) (by omega)],h⟩
theorem zJ {B:Int->List (List UInt8)->Option ((Int×List (List UInt8))⊕List (List UInt8))} {f:List (List UInt8)->Option β} (n:Nat) (hl:LB k l)
 (he: ∀ l,B (n:Int) l=some (.inr l)) (hs: ∀ (i m:Nat) l,i<n->m<=k+n->LB m l->W (B (i:Int) l) (Rnd i m)) (hf: ∀ l',LB (k+n) l'->W (f l') Q) (hn:n<=1000:=by omega):
 W ((iter (fun(v:Int×List (List UInt8))=>B v.1 v.2) FU (0,l)).bind f) Q:=by
 have key: ∀ (j i N:Nat) (l:List (List UInt8)),i+j=n->j<N->LB (k+i) l-> ∃ l',LB (k+n) l'/\iter (fun(v:Int×List (List UInt8))=>B v.1 v.2) N ((i:Int),l)=some l':=by
  intro j;induction j with
  | zero=>
    intro i N l hi hN hl;obtain⟨N,rfl⟩: ∃ M,N=M+1:=⟨N - 1,by omega⟩;obtain rfl:i=n:=by omega
    exact⟨l,hl,Cu (he l)⟩
  | succ j ih=>
    intro i N l hi hN hl;obtain⟨N,rfl⟩: ∃ M,N=M+1:=⟨N - 1,by omega⟩;obtain⟨r,h1,l',rfl,h2⟩:=hs i (k+i) l (by omega) (by omega) hl;obtain⟨l2,h3,h4⟩:=ih (i+1) N l' (by omega) (by omega) h2;refine⟨l2,h3,?_⟩;rw [CM h1];exact h4
 obtain⟨l',h1,h2⟩:=key n 0 FU l (by omega) (by unfold FU;omega) hl;have h2':iter (fun(v:Int×List (List UInt8))=>B v.1 v.2) FU (0,l)=some l':=h2;rw [h2'];exact hf l' h1
theorem wMk {B:Int->Int->Option ((Int×Int)⊕Int)} {f:Int->Option β} {a:Int} {g:Int->Int} (n:Int) (hn:n<=1000)
 (hB: ∀ m k,B m k=if decide (k<n) then some (.inl (g m,Aa (k+1)))else some (.inr m)) (hf: ∀ m,W (f m) Q):W ((iter (fun(v:Int×Int)=>B v.1 v.2) FU (a,0)).bind f) Q:=by
 refine W.it (fun v=>0<=v.2/\(v.2<=n\/v.2<=0)) (fun v=>(n - v.2).toNat) ⟨by simp,by simp⟩ (by dsimp only;omega) (fun v hv=>?_);obtain⟨m,k⟩:=v;dsimp only at hv ⊢;rw [hB];refine W.if (fun h=>?_) (fun h=>W.ex (hf m))
 have h:=of_decide_eq_true h;have:=A7 (x:=k+1) (by omega) (by omega);exact W.nx (by dsimp only;omega) (by dsimp only;omega)
end
theorem bb (sep:List UInt8) (n:Nat): ∀ {l:List (List UInt8)},(∀ y∈l,y.length<=n)->(Lib.join l sep).length <=l.length*(n+sep.length)
 | [],_=>by simp [Lib.join_nil]
 | [a],h=>by have:=h a (by simp);rw [Lib.join_one];simp;omega
 | a::b::l,h=>by
   have h1:=h a (by simp);have h2:=bb sep n (l:=b::l) (fun y hy=>h y (by simp [hy]));have e:Lib.join (a::b::l) sep=a++(sep++Lib.join (b::l) sep):=by simp [Lib.join_cons,Lib.joinTail]
   rw [e,length_append,length_append,length_cons];rw [Nat.add_mul];omega
end Go.PL
namespace Go.PL
open Go
theorem wW {P:Program} {f:FuncId} {fn:Func} {s:ChangeSpec} {c:OpenClaim} (h0:(c.wf (OpenSpec.ofChange s))=true) (h1:(laidOutB P)=true) (h2:(mapsRowed P)=true) (h3:(fn.params.all (P.readableRec ·))=true) (h4:(namedTie P c.named s.vars)=true) (h5:((c.stops==[]))=true) (h6:((P.stops==[]))=true) (h7:((c.knobs==[]))=true) (h8:((P.stopKnobs==[]))=true) (h9:((c.inPlace==P.inPlace f))=true) (h10:((c.unfollowed==P.unfollowed f))=true) (h11:((c.recurses==P.recurses f))=true) (h12:((c.named==P.varsNamed f))=true) (h13:((c.maps==(fn.params.toList++s.plain.varTypes P).any (P.mapsRec ·)))=true) (h14:((c.ifaces==(fn.params.toList++s.plain.varTypes P).any (P.ifacesRec ·)))=true) (h15:((c.mapsOut==P.mapsAmong fn.resultTypes.toList))=true) (h16:((c.loops==(fn.params.toList++s.plain.varTypes P).any (P.loopsFrom ·)))=true) (h17:((c.wideKeys==(fn.params.toList++s.plain.varTypes P++fn.resultTypes.toList).any (P.wideKeysFrom ·)))=true) (h18:(s.vars.all (P.varReadable ·))=true) (h19:(fn.resultTypes.all (fun t=>P.readableRec t&&decide (t<P.types.size)))=true) (h20:((c.ifacesOut==fn.resultTypes.toList.any (P.ifacesRec ·)))=true) (h21:((c.loopsOut==fn.resultTypes.toList.any (P.loopsFrom ·)))=true) (h22:((c.plainKeys==P.plainKeys))=true) (h23:(c.shortTexts.isNone)=true) (h24:(P.stopsHeard)=true) (h25:(P.mayEnter)=true) (h26:((c.lifted==P.liftsFinal))=true) (h27:((P.make==some c.make))=true) (h28:(c.domain.isEmpty&&(c.kinds==[]))=true) (h29:((c.pinned==c.pinnedBy))=true) (h30:((c.veiled==(fn.params.toList++s.plain.varTypes P++fn.resultTypes.toList).any (P.veiledRec ·)))=true) (h31:(c.veiledFits P fn.params.toList (fn.params.toList++s.plain.varTypes P++fn.resultTypes.toList))=true):joinedFacts P f fn s c=true:=by simp_all [joinedFacts]
end Go.PL
namespace Go.PL
open Go
section
variable {H:Type} {enc:TypeId×Value->H}
theorem Acs {a:Assume} {C:Checked} {os:Os} {f:FuncId} {fn:Func} {s:ChangeSpec} {conds:List PathCond} {apart fresh handsOn again:Bool} {X:World->Array Value->Prop}
 (hX: ∀ (w w':World) (args:Array Value),w.heap=w'.heap->X w args->X w' args)
 (own:ownKnob C.prog.godebug=none) (started:os.Started) (arF:C.prog.inits.idxOf? f=none) (hfn:C.prog.funcs[f]? =some fn)
 (witness: ∃ (w:World) (tape:Tape) (i:Input),w.os=os/\(w.forCall tape i).Shaped C.prog/\i.vars=[]/\Input.okWide C.prog (w.forCall tape i) .any w.heap.size f i/\
  ((s.pre enc C.prog fn conds apart (w.forCall tape i).memory i.args/\X (w.forCall tape i).memory i.args)/\sizedMet enc C.prog fn (OpenSpec.ofChange s) apart (w.forCall tape i).memory i.args)/\a.holds C.prog (lone (Frame.enter C.prog f i.args .normal) [] (w.forCall tape i)))
 (contract: ∀ (W:World) (base:Nat) (args:Array Value) (ds gs:List (DataW H)) (before:List MemPlace),
  (∀ (j:Nat) t v,fn.params[j]? =some t->args[j]? =some v->Value.okWide C.prog W .any base t v)->
  DataW.Whole enc C.prog fn.params.toList s.vars apart W args.toList ds gs before->
  conds.all (PathCond.test C.prog ⟨fn.params.toList,ds,s.plain.varTypes C.prog,gs⟩)=true->
  (DataW.weightsEach C.prog (fn.params.toList++s.plain.varTypes C.prog) (ds++gs)).all (· <=reachBytes)=true->X W args->W.ShapedOpen C.prog->
  a.holds C.prog (lone (Frame.enter C.prog f args .normal) [] W)->
  Calls C.prog f args W fun e W'=> ∃ v,e= .returned v/\s.post enc C.prog fn apart fresh handsOn again W args v W'):
 ReturnsInHanded a C os f .any (fun w args=>(s.pre enc C.prog fn conds apart w args/\X w args)/\sizedMet enc C.prog fn (OpenSpec.ofChange s) apart w args) (s.post enc C.prog fn apart fresh handsOn again):=by
 refine returnsInHanded_of_calls own started arF witness ?_;intro w tape i _ hsh _ hok an4 asg;obtain⟨_,_,_,fn',aG7,_,_,_,_,ajD⟩:=hok;have e:fn'=fn:=(by grind);subst e;obtain⟨⟨⟨ds,gs,before,hw,hc⟩,hx⟩,hz⟩:=an4;have hw':=DataW.Whole.of_heap (w':=w.forCall tape i) (by rfl) hw;refine(contract (w.forCall tape i) w.heap.size i.args ds gs before ajD hw' hc (hz.weights hw) (hX _ _ _ (by rfl) hx) hsh asg).mono fun e W' ⟨v,he,hp⟩=>?_;grind [ChangeSpec.post_blind]
def kj {H:Type} (ss:List (List UInt8)):DataW H:= .agg (ss.map fun s=> .lit (.string s))
theorem dt {H:Type} {enc:TypeId×Value->H} {P:Program} {w:World} {base:Nat} {sp:Nat->Bool} {held:Bool} {fuel:Nat} {t e:TypeId} {n:Nat} {cs:List Value} {ss:List (List UInt8)} {p:List MemPlace}
 (ht:P.underlying t=some (.array n e)) (he:P.underlying e=some .string) (hce:P.cellsOf e=1) (hct:P.cellsOf t=n)
 (h:DataW.trod enc P w base sp held fuel t cs=some (kj ss,p)):cs=ss.map fun s=>Value.string ⟨s.toArray⟩:=by
 cases fuel with
 | zero=>simp [DataW.trod]at h
 | succ fuel=>
   simp only [DataW.trod,ht,hce,hct,mul_one]at h;split at h
   ·rename_i hl;obtain⟨xs,hm,hx⟩:=Option.map_eq_some_iff.1 h;have hxs:xs.map (·.1)=ss.map fun s=>(DataW.lit (.string s):DataW H):=by simp_all [kj]
    have hxl:xs.length=n:=by simpa using Lib.mapM_length hm
    have hzl:ss.length=n:=by have:=congrArg List.length hxs;grind
    apply List.ext_getElem?;intro i;by_cases hi:i<n
    ·obtain⟨b,hb,hf⟩:=Lib.mapM_at hm i i (by simp [hi]);obtain⟨z,hc,rfl,_⟩:=DataW.trod_string he hf;have h1:cs[i]? =some (.string z):=by have:=congrArg (·[0]?) hc;grind
     have h2:(xs.map (·.1))[i]? =some (DataW.lit (.string z.data.toList):DataW H):=by simp [hb]
     simp_all
    grind
   ·cases h
theorem S8 {P:Program} {W:World} {name:String} {ss:List (List UInt8)} {rest:List (String×DataW Unit)} {g:Nat} {t e:TypeId} {n:Nat}
 (hg:P.globalNamed name=some g) (hty:(P.globals[g]?).map (·.type)=some t) (ht:P.underlying t=some (.array n e)) (he:P.underlying e=some .string) (hce:P.cellsOf e=1) (hct:P.cellsOf t=n)
 (h:laidMet P ((name,kj ss)::rest) W): ∃ T fz,W.heap[g]? =some (.cells (ss.map fun s=>Value.string ⟨s.toArray⟩).toArray T fz):=by
 obtain⟨ps,⟨g',t',cs,fuel,p,q,hg',ht',ar0,hd,_,_⟩,_⟩:=h;obtain rfl:=Option.some.inj (hg.symm.trans hg');obtain rfl:=Option.some.inj (hty.symm.trans ht');have hc:=dt ht he hce hct hd;simp only [World.var?,hg,Option.bind_some]at ar0;split at ar0
 ·rename_i c T fz hh;injection ar0 with hv;subst hv;refine⟨T,fz,?_⟩;rw [hh, <-hc]
 grind
end
end Go.PL
