/- The pure logic: Tv, Tv2, PlYh, Ka, Kb, Kc, Kd, Kf, Kg, Kh, Ki, Kj, Kja, Kk, Kl, Km, Kn. -/
import Derived.Test.YtekonfaeacligaaGreatDoorTu9toTs
import Derived.Test.YtekonfaeacligaaGreatDoorPlYftoTu8
import Derived.Test.YtekonfaeacligaaGreatDoorPlPhtoPlYe
import Derived.Shelf.Spec.SlicesInsert
import Derived.Shelf.Spec.SlicesInsertGrow
import Derived.Test.YtekonfaeacligaaGreatDoorPlRtoPlPg
import Derived.Lib.UnsafeStr
import Derived.RangeFuncLeaves
import Derived.RangeFuncRecord
import Derived.RangeFuncIn
import Derived.TacticsIn
import Derived.OrdersIn
open Option.some (injEq)
open Bool (and_eq_true)
open Nat (le_refl eq_of_beq_eq_true blt_eq le_trans ble_eq lt_of_lt_of_le add_mul add_zero)
open List (map_cons mem_map all_cons getElem?_take length_append take_take take_length headD_nil map_nil mem_cons nodup_cons mem_filter length_cons all_nil)
open Array (getD_eq_getD_getElem?)
open Option (map_some)
set_option linter.all false
set_option linter.all false
namespace Go.PL
open Go Go.RowKit
variable {T:AX}
def jz (st:Ac T) (id:Ad):Option ((E:Nat)×(Int×List (T.den E))):=match DF id&& !Cf id with
 | false=>none
 | true=>match EK st.so id with
   | some e=>match e.x with
     | .deep E n l none=>some ⟨E,(n,l)⟩
     | _=>none
   | none=>none
theorem eU {st:Ac T} {id:Ad} {E:Nat} {n:Int} {l:List (T.den E)} (h:jz st id=some ⟨E,(n,l)⟩):DF id=true/\Cf id=false/\ ∃ e∈st.so,e.id=id/\e.x= .deep E n l none:=by
 unfold jz at h;split at h
 ·cases h
 ·rename_i hd;simp only [and_eq_true,Bool.not_eq_true']at hd;split at h
  ·rename_i e he;split at h
   ·rename_i E' n' l' hx;injection h with h;injection h with h1 h2;subst h1;have h2:=eq_of_heq h2;grind [B8]
   ·cases h
  ·cases h
def sA (k:Kd) (c:DC T):M (L5 T.den k×List Ad):= .y_ (.sm (Fz true k c)) fun x=> .ret (x,[])
def wK (st:Ac T) (m:Nat) (k:Kd) (c:DC T):M (L5 T.den k×List Ad):=match k with
 | .w_ E=>match m with
   | 1=>match HV c with
     | some id=>match CI st id with
       | some ⟨E',l⟩=> .y_ (.sm (UZ E E' l)) fun l'=> .ret (l',[id])
       | none=> .no
     | none=> .no
   | 2=>match HV c with
     | some id=>match jz st id with
       | some ⟨E',(n,l)⟩=> .opt (DG (n=(List.length l:Nat))) fun _=> .y_ (.sm (UZ E E' l)) fun l'=> .ret (l',[id])
       | none=> .no
     | none=> .no
   | _=>sA (.w_ E) c
 | k=>sA k c
def wL (st:Ac T):List Nat->(ks:List Kd)->List (DC T)->M (DK T.den ks×List Ad)
 | m::ms,k::ks,c::cs=> .y_ (wK st m k c) fun a=> .y_ (wL st ms ks cs) fun b=> .ret ((a.1,b.1),a.2++b.2)
 | [],k::ks,c::cs=> .y_ (sA k c) fun a=> .y_ (wL st [] ks cs) fun b=> .ret ((a.1,b.1),b.2)
 | _,[],[]=> .ret ((),[])
 | _,_,_=> .no
def jA (st:Ac T) (m:List Nat):(t:VT)->DV T->M (Dj T t×List Ad)
 | .k kd,v=>match asC v with
   | some c=>wK st (m.headD 0) kd c
   | none=> .no
 | .s E,v=>match asA v with
   | some cs=> .y_ (wL st m (T.ks E) cs) fun a=> .ret (T.bd E a.1,a.2)
   | none=> .no
 | .f _,_=> .no
def o4 (P:Program) (st:Ac T):List (List Nat)->(ts:List VT)->List ResultVar->M (RT T ts×List Ad)
 | m::_,[t],[x]=> .y_ (Ry P st x) fun v=>jA st m t v
 | [],[t],[x]=> .y_ (Ry P st x) fun v=>jA st [] t v
 | m::ms,t::u::ts,x::xs=> .y_ (Ry P st x) fun v=> .y_ (jA st m t v) fun a=> .y_ (o4 P st ms (u::ts) xs) fun b=> .ret ((a.1,b.1),a.2++b.2)
 | [],t::u::ts,x::xs=> .y_ (Ry P st x) fun v=> .y_ (jA st [] t v) fun a=> .y_ (o4 P st [] (u::ts) xs) fun b=> .ret ((a.1,b.1),a.2++b.2)
 | _,_,_=> .no
structure ia (st:Ac T) (os:List OE) (ids:List Ad) (n:Nat):Prop where
 len:os.length=n/\ids.length=n
 ns:HL os ids=true
 so: ∀ e∈Ce os ids,e∈st.toSt.so
theorem ia.nil {st:Ac T}:ia st [] [] 0:=⟨⟨rfl,rfl⟩,rfl,fun _ h=>by simp [Ce]at h⟩
theorem ia.append {st:Ac T} {a b:List OE} {i j:List Ad} {n m:Nat} (h:ia st a i n) (k:ia st b j m):ia st (a++b) (i++j) (n+m):=by
 have e:a.length=i.length:=h.len.1.trans h.len.2.symm;refine⟨⟨by simp [h.len.1,k.len.1],by simp [h.len.2,k.len.2]⟩,HY h.ns k.ns,fun x hx=>?_⟩;rw [Ga e]at hx;rcases List.mem_append.1 hx with hx | hx
 ·exact h.so x hx
 ·exact k.so x hx
theorem Hq: ∀ (ks:List Kd) (x:DK T.den ks),BM [] ks x=[]
 | [],_=>rfl
 | _::_,_=>rfl
theorem o5 (ks:List Kd):DO [] ks=0:=by cases ks<;>rfl
theorem mD {k:Kd} {c:DC T}:Yl (sA k c) (fun a=>a.2=[]/\ ∀ (w:World) (G:Ax) (v:Value),Ab w G c.toC v->Ab w G (AW T.enc k a.1) v):=
 Yl.y_ (Yl.sm fun x hx=>(BP hx).1) fun x hx=>Yl.ret ⟨rfl,(by grind [Gv])⟩
theorem mE {st:Ac T} {H:Aq T} (hw:Ay H st) (m:Nat) (k:Kd) (c:DC T):Yl (wK st m k c) (fun a=>ia st (Hh m k a.1) a.2 (MC m k)/\
 ∀ (pre post:List Ad) (w:World) (G:Ax) (v:Value),Ab w G c.toC v->Ab w G ((ML m pre.length k a.1).toC (pre++(a.2++post))) v):=by
 have fr: ∀ (k:Kd) (c:DC T),(∀ x,Hh (T:=T) m k x=[])->MC m k=0->Yl (sA k c) (fun a=>ia st (Hh m k a.1) a.2 (MC m k)/\
  ∀ (pre post:List Ad) (w:World) (G:Ax) (v:Value),Ab w G c.toC v->Ab w G ((ML m pre.length k a.1).toC (pre++(a.2++post))) v):=fun k c h1 h2=>by
  refine mD.mono fun a ⟨q1,q2⟩=>⟨by grind [ia.nil],fun pre post w G v h=>?_⟩;unfold ML;rw [h2];exact q2 w G v h
 have own: ∀ (E:Nat) (id:Ad) (e:DE T) (dp:Bool) (l:List (T.den E)) (cs:List C),HV c=some id->e∈st.so->e.id=id->DF id=dp->Cf id=false->e.toE=⟨id,some (E,T.sz E,l.length),cs,true⟩->
  ia st [⟨dp,E,T.sz E,l.length,cs⟩] [id] 1/\ ∀ (pre post:List Ad) (w:World) (G:Ax) (v:Value),Ab w G c.toC v->Ab w G (PC.toC (pre++([id]++post)) (.o pre.length)) v:=by
  intro E id e dp l cs ho hm hid hd hmk hE;refine⟨⟨⟨rfl,rfl⟩,by simp [HL,hd,hmk],fun x hx=>?_⟩,fun pre post w G v h=>?_⟩
  ·simp only [Ce,List.mem_singleton]at hx;subst hx;have:(⟨dp,E,T.sz E,l.length,cs⟩:OE).ent id=e.toE:=by rw [hE];rfl
   rw [this];exact mem_map.2 ⟨e,hm,rfl⟩
  ·simp only [PC.toC,rE];rw [Di ho]at h;grind [DC.toC]
 unfold wK;cases k with
 | w_ E=>
   match m with
   | 0=>exact fr (.w_ E) c (fun _=>rfl) rfl
   | _+3=>exact fr (.w_ E) c (fun _=>rfl) rfl
   | 1=>
     simp only;split
     ·rename_i id ho;split
      ·rename_i E' l hr;refine Yl.y_ (Yl.sm fun x hx=>hx) fun l' hl=>Yl.ret ?_;obtain⟨e,rfl⟩:=Hk hl;subst e;obtain⟨h1,_,d,h2,h3,h4⟩:=Bg hr;have hE:=DE.toE_row h4;rw [h3]at hE;exact own E' id d false l _ ho h2 h3 (DP h1) (by
        have:=hw;unfold CI Ac.look at hr;cases hq:Cf id with
        | false=>rfl
        | true=>simp [hq]at hr) hE
      ·exact Yl.no
     ·exact Yl.no
   | 2=>
     simp only;split
     ·rename_i id ho;split
      ·rename_i E' n l hr;refine Yl.opt fun u hu=>Yl.y_ (Yl.sm fun x hx=>hx) fun l' hl=>Yl.ret ?_;obtain⟨e,rfl⟩:=Hk hl;subst e;obtain⟨h1,h1',d,h2,h3,h4⟩:=eU hr;have hn:n=(l.length:Int):=BK hu;have hE:d.toE=⟨id,some (E',T.sz E',l.length),Av T E' (List.length l:Nat) 0 l,true⟩:=by unfold DE.toE;rw [h4,h3];subst hn;rfl
       exact own E' id d true l _ ho h2 h3 h1 h1' hE
      ·exact Yl.no
     ·exact Yl.no
 | int k=>exact fr (.int k) c (fun _=>rfl) rfl
 | bool=>exact fr .bool c (fun _=>rfl) rfl
 | str=>exact fr .str c (fun _=>rfl) rfl
theorem aI {st:Ac T} {H:Aq T} (hw:Ay H st): ∀ (ms:List Nat) (ks:List Kd) (cs:List (DC T)),Yl (wL st ms ks cs) (fun a=>ia st (BM ms ks a.1) a.2 (DO ms ks)/\
 ∀ (pre post:List Ad) (w:World) (G:Ax) (vs:List Value),Ae w G (Ap cs) vs->Ae w G ((DN ms pre.length ks a.1).map (PC.toC (pre++(a.2++post)))) vs)
 | [],[],[]=>Yl.ret ⟨ia.nil,(by grind [Ap,DN])⟩
 | _::_,[],[]=>Yl.ret ⟨ia.nil,(by grind [Ap,DN])⟩
 | m::ms,k::ks,c::cs=>Yl.y_ (mE hw m k c) fun a ha=>Yl.y_ (aI hw ms ks cs) fun b hb=>Yl.ret (by
   refine⟨ha.1.append hb.1,fun pre post w G vs h=>?_⟩;cases vs with
   | nil=>simp [Ap,Ae]at h
   | cons v vs=>
     simp only [Ap,Ae]at h;simp only [DN,map_cons,Ae];have h2:=hb.2 (pre++a.2) post w G vs h.2;rw [length_append,ha.1.len.2]at h2;grind)
 | [],k::ks,c::cs=>Yl.y_ mD fun a ha=>Yl.y_ (aI hw [] ks cs) fun b hb=>Yl.ret (by
   refine⟨hb.1,fun pre post w G vs h=>?_⟩;cases vs<;>grind [Ap,Ae,DN,PC.toC])
 | [],[],_::_=>Yl.no
 | _::_,[],_::_=>Yl.no
 | [],_::_,[]=>Yl.no
 | _::_,_::_,[]=>Yl.no
theorem SP {st:Ac T} {H:Aq T} (hw:Ay H st) (m:List Nat) (t:VT) (v:DV T):Yl (jA st m t v) (fun a=>ia st (BM m (DH T t) (Le t a.1)) a.2 (DO m (DH T t))/\
 ∀ (pre post:List Ad) (w:World) (G:Ax) (u:Value),Aa w G v.toV u->Aa w G ((F2 m pre.length t a.1).toV (pre++(a.2++post))) u):=by
 cases t with
 | k kd=>
   simp only [jA];split
   ·rename_i c hc;rw [UH hc];refine(mE hw (m.headD 0) kd c).mono fun a ⟨h1,h2⟩=>?_;have e1:BM m [kd] ((a.1,()):DK T.den [kd])=Hh (m.headD 0) kd a.1:=by
     cases m with
     | nil=>simp only [BM,headD_nil];unfold Hh;grind
     | cons x m=>grind [BM]
    have e2:DO m [kd]=MC (m.headD 0) kd:=by
     cases m with
     | nil=>simp only [DO,headD_nil];unfold MC;grind
     | cons x m=>cases m<;>simp [DO]
    refine⟨by show ia st (BM m [kd] ((a.1,()):DK T.den [kd])) a.2 (DO m [kd]);grind,fun pre post w G u h=>?_⟩;grind [DV.toV,Aa,F2,PP.toV]
   ·exact Yl.no
 | s E=>
   simp only [jA];split
   ·rename_i cs hc;rw [UI hc];refine Yl.y_ (aI hw m (T.ks E) cs) fun a ⟨h1,h2⟩=>Yl.ret ⟨?_,fun pre post w G u h=>?_⟩
    ·simp only [DH,Le,T.ab7];exact h1
    ·simp only [DV.toV,Aa]at h;obtain⟨arr,e,h⟩:=h;simp only [F2,PP.toV,Aa,T.ab7];grind
   ·exact Yl.no
 | f g=>exact Yl.no
theorem aJ {P:Program} {st:Ac T} {H:Aq T} (hw:Ay H st): ∀ (ow:List (List Nat)) (ts:List VT) (xs:List ResultVar),Yl (o4 P st ow ts xs) (fun a=>(BR P st.toSt xs).1/\(∃ n,ia st (CG ow ts a.1) a.2 n)/\xs.length=ts.length/\
 ∀ (pre post:List Ad) (w:World) (G:Ax) (us:List Value),Ao w G (BR P st.toSt xs).2 us->Ao w G ((Bs ow pre.length ts a.1).map (PP.toV (pre++(a.2++post)))) us)
 | m::ms,[t],[x]=>Yl.y_ (Hj hw x) fun v hv=>(SP hw m t v).mono fun a ha=>by obtain⟨v1,v2,v3⟩:=hv;refine⟨⟨v2,trivial⟩,(by grind [CG]),rfl,fun pre post w G us h=>?_⟩;simp only [BR,Ao]at h;obtain⟨u,r,rfl,h1,rfl⟩:=h;rw [v3]at h1;simp only [Bs,map_cons,map_nil,Ao];grind
 | [],[t],[x]=>Yl.y_ (Hj hw x) fun v hv=>(SP hw [] t v).mono fun a ha=>by obtain⟨v1,v2,v3⟩:=hv;have e1:BM [] (DH T t) (Le t a.1)=[]:=Hq _ _;rw [e1]at ha;refine⟨⟨v2,trivial⟩,(by grind [CG]),rfl,fun pre post w G us h=>?_⟩;simp only [BR,Ao]at h;obtain⟨u,r,rfl,h1,rfl⟩:=h;rw [v3]at h1;simp only [Bs,map_cons,map_nil,Ao];grind
 | m::ms,t::u::ts,x::xs=>Yl.y_ (Hj hw x) fun v hv=>Yl.y_ (SP hw m t v) fun a ha=>Yl.y_ (aJ hw ms (u::ts) xs) fun b hb=>Yl.ret (by
   obtain⟨v1,v2,v3⟩:=hv;obtain⟨b1,⟨n,b2⟩,b3,b4⟩:=hb;refine⟨⟨v2,b1⟩,⟨_,by simp only [CG];exact ha.1.append b2⟩,by grind,fun pre post w G us h=>?_⟩;simp only [BR,Ao]at h;obtain⟨u',r,rfl,h1,h2⟩:=h;rw [v3]at h1;have h3:=b4 (pre++a.2) post w G r h2;rw [length_append,ha.1.len.2]at h3;simp only [Bs,map_cons,Ao,List.append_assoc]at h3 ⊢;grind)
 | [],t::u::ts,x::xs=>Yl.y_ (Hj hw x) fun v hv=>Yl.y_ (SP hw [] t v) fun a ha=>Yl.y_ (aJ hw [] (u::ts) xs) fun b hb=>Yl.ret (by
   obtain⟨v1,v2,v3⟩:=hv;obtain⟨b1,⟨n,b2⟩,b3,b4⟩:=hb;have e1:BM [] (DH T t) (Le t a.1)=[]:=Hq _ _;have e2:DO [] (DH T t)=0:=o5 _;rw [e1,e2]at ha;have e3:a.2=[]:=List.length_eq_zero_iff.1 ha.1.len.2;refine⟨⟨v2,b1⟩,(by grind [CG]),by grind,fun pre post w G us h=>?_⟩;simp only [BR,Ao]at h;obtain⟨u',r,rfl,h1,h2⟩:=h;rw [v3]at h1;have h3:=b4 pre post w G r h2;have h4:=ha.2 pre (b.2++post) w G u' h1;rw [e3]at h4;simp only [Bs,map_cons,Ao,e3,List.nil_append]at h3 h4 ⊢;grind)
 | [],[],[]=>Yl.no
 | [],[],_::_=>Yl.no
 | _::_,[],[]=>Yl.no
 | _::_,[],_::_=>Yl.no
 | [],[_],[]=>Yl.no
 | _::_,[_],[]=>Yl.no
 | [],[_],_::_::_=>Yl.no
 | _::_,[_],_::_::_=>Yl.no
 | [],_::_::_,[]=>Yl.no
 | _::_,_::_::_,[]=>Yl.no
section
variable {P:Program} {I:World->Prop}
def yG (P:Program) (ow:List (List Nat)) (rs:List VT) (xs:List ResultVar) (e:Exit) (st:Ac T):Option (RT T rs):=match e with
 | .normal =>o4 P st ow rs xs _ fun a=>match Jz a.2 with
   | true=>some a.1
   | false=>none
 | .ret =>o4 P st ow rs xs _ fun a=>match Jz a.2 with
   | true=>some a.1
   | false=>none
 | _=>none
def aK (Γ:List (CE T P I)) (n:Nat) (fn:Func) (body:Code) (h:Hn) (ow:List (List Nat)) (ps rs:List VT) (x:XS T ps):Option (RT T rs):=
 match Nat.ble (I9 ps x).length fn.ntmps with
 | true=>Ip Γ (sy Γ n) body h (Vo (I9 ps x) fn.ntmps) (RT T rs) (yG P ow rs fn.results.toList)
 | false=>none
theorem sB (m:Nat) (k:Kd) (x:L5 T.den k):(PC.c (AW T.enc k x)).ok m=true:=by have:=Cz (T:=T) (.k k) x;grind [Dk,V.pure,PC.ok]
theorem eV (m j:Nat) (k:Kd) (x:L5 T.den k) (M:Nat) (h:j+MC m k<=M):(ML m j k x).ok M=true:=by grind [ML,sB,PC.ok,blt_eq]
theorem Vp: ∀ (ms:List Nat) (j:Nat) (ks:List Kd) (x:DK T.den ks) (M:Nat),j+DO ms ks<=M->(DN ms j ks x).all (PC.ok M)=true
 | [],_,[],_,_,_=>rfl
 | _::_,_,[],_,_,_=>rfl
 | [],j,k::ks,x,M,h=>by
   have e:DO [] ks=0:=by cases ks<;>rfl
   simp only [DN,all_cons,sB,Bool.true_and];exact Vp [] j ks x.2 M (by simp only [DO]at h;omega)
 | m::ms,j,k::ks,x,M,h=>by simp only [DO]at h;simp only [DN,all_cons,and_eq_true];exact⟨eV m j k x.1 M (by omega),Vp ms (j+MC m k) ks x.2 M (by omega)⟩
theorem OB (m:List Nat) (j:Nat) (t:VT) (x:Dj T t) (M:Nat) (h:j+DO m (DH T t)<=M):(F2 m j t x).ok M=true:=by
 cases t with
 | k kd=>
   simp only [F2,PP.ok];refine eV _ _ _ _ _ ?_;cases m with
   | nil=>simp only [headD_nil];unfold MC;grind
   | cons a m=>grind [DH,DO]
 | s E=>exact Vp _ _ _ _ _ h
 | f g=>rfl
theorem NG (ms:List Nat) (ks:List Kd) (x:DK T.den ks):(BM ms ks x).length =DO ms ks:=by obtain⟨a,b⟩:=JI ms 0 [] ks x;rw [a,b]
theorem Vq: ∀ (ow:List (List Nat)) (j:Nat) (ts:List VT) (x:RT T ts) (M:Nat),j+(CG ow ts x).length <=M->(Bs ow j ts x).all (PP.ok M)=true
 | [],_,[],_,_,_=>rfl
 | _::_,_,[],_,_,_=>rfl
 | [],j,[t],x,M,h=>by simp only [Bs,all_cons,all_nil,Bool.and_true];grind [OB,DO]
 | m::ms,j,[t],x,M,h=>by simp only [Bs,all_cons,all_nil,Bool.and_true];grind [CG,NG,OB]
 | [],j,t::u::ts,x,M,h=>by
   simp only [Bs,all_cons,and_eq_true]
   exact⟨OB [] j t x.1 M (by have:DO [] (DH T t)=0:=by cases DH T t<;>rfl
                             omega),Vq [] j (u::ts) x.2 M (by have e:CG [] (u::ts) x.2=[]:=by cases ts<;>rfl
                                                              rw [e];simp only [List.length_nil];omega)⟩
 | m::ms,j,t::u::ts,x,M,h=>by simp only [CG,length_append,NG]at h;simp only [Bs,all_cons,and_eq_true];exact⟨OB m j t x.1 M (by omega),Vq ms _ (u::ts) x.2 M (by omega)⟩
theorem YF {P:Program} {st:St} {xs:List ResultVar} {w:World} {G:Ax} {v:Value} {ps:List PP} {ids:List Ad} (hl:ps.length=xs.length) (hs:(BR P st xs).1) (h: ∀ us,Ao w G (BR P st xs).2 us->Ao w G (ps.map (PP.toV ids)) us):(BO P st xs).1/\(Aa w G (BO P st xs).2 v->Aa w G (K9 ids ps) v):=by
 match xs,ps,hl,hs,h with
 | [x],[p],_,hs,h=>
   refine⟨hs.1,fun hv=>?_⟩;have:=h [v] (by simp only [BR,Ao];exact⟨v,[],rfl,hv,rfl⟩);simp only [map_cons,map_nil,Ao]at this;obtain⟨v',r,e,h1,rfl⟩:=this;injection e with e _;subst e;exact h1
 | [],[],_,hs,h=>simp_all [BO,BR,K9]
 | x::y::xs,p::q::ps,_,hs,h=>
   grind [BO,Aa,K9]
theorem Ew: ∀ (ow:List (List Nat)) (j:Nat) (ts:List VT) (x:RT T ts),(Bs ow j ts x).length =ts.length
 | [],_,[],_=>rfl
 | _::_,_,[],_=>rfl
 | [],j,[t],x=>rfl
 | m::ms,j,[t],x=>rfl
 | [],j,t::u::ts,x=>by simp only [Bs,length_cons,Ew [] j (u::ts) x.2]
 | m::ms,j,t::u::ts,x=>by simp only [Bs,length_cons,Ew ms _ (u::ts) x.2]
theorem sC {Γ:List (CE T P I)} (ac7:GX I) (S_:P.follows .mixedOrders =true) {n:Nat} {f:FuncId} {fn:Func} {body:Code} (hf:P.funcs[f]? =some fn) (hb:fn.body=some body) (aao:PL.ent P f=true) {h:Hn} {ow:List (List Nat)} {ps rs:List VT} {x:XS T ps} {r:RT T rs}
 (hr:aK Γ n fn body h ow ps rs x=some r):La P I f (Ep ps x) (CG ow rs r) (Bs ow 0 rs r):=by
 unfold aK at hr;split at hr
 ·rename_i hl;obtain⟨H,hw⟩:=YC (args:=I9 ps x) (n:=fn.ntmps) (fun H=>Vn ps x);refine La.of ac7 aao hf hb (Vq _ _ _ _ _ (by simp)) fun F hI=>?_;rw [<-Qr, <-RH (by simp_all)];refine DT S_ (aH S_ n) body h _ H _ _ r hw hr F _ hI fun H' e an n q=>?_;have fin:o4 P an ow rs fn.results.toList _ (fun a=>match Jz a.2 with | true=>some a.1 | false=>none)=some r->Acs P an.toSt fn.results.toList (CG ow rs r) (Bs ow 0 rs r):=by
   intro q;obtain⟨a,⟨h1,⟨k,h2⟩,h3,h4⟩,h5⟩:=aJ n.ok ow rs fn.results.toList _ _ r q;split at h5
   ·rename_i hnd;injection h5 with h5;subst h5;have hlen:(Bs ow 0 rs a.1).length =fn.results.toList.length:=by rw [Ew];omega
    refine⟨a.2,h2.ns,Fw hnd,(YF (w:=default) (G:=im fun _=>False) (v:=Go.undef) (ids:=a.2) hlen h1 (fun us hu=>?_)).1,fun w G v hv=>(YF hlen h1 (fun us hu=>?_)).2 hv,h2.so⟩
    ·have:=h4 [] [] _ _ us hu;grind
    ·have:=h4 [] [] _ _ us hu;grind
   ·cases h5
  cases e<;>simp only [yG]at q ⊢ <;>first
   | grind
   | grind
 ·cases hr
theorem eW {pre:List OE} {n:OE} {post:List OE}:(pre++([n]++post))[pre.length]? =some n:=by simp
theorem YG (m:Nat) (k:Kd) (x:L5 T.den k) (pre post:List OE):(ML m pre.length k x).frz (pre++(Hh m k x++post))=AW T.enc k x:=by
 cases k with
 | w_ E=>
   match m with
   | 0=>rfl
   | _+3=>rfl
   | 1=>
     show PC.frz _ (.o pre.length)=_;simp only [PC.frz,Hh,eW];rfl
   | 2=>
     show PC.frz _ (.o pre.length)=_;simp only [PC.frz,Hh,eW,OE.frz];exact congrArg (C.sl _) (NA E _ 0 x)
 | _=>rfl
theorem Qs: ∀ (ms:List Nat) (ks:List Kd) (x:DK T.den ks) (pre post:List OE),(DN ms pre.length ks x).map (PC.frz (pre++(BM ms ks x++post)))=Bd T.enc ks x
 | [],[],_,_,_=>by simp [DN,Bd]
 | _::_,[],_,_,_=>by simp [DN,Bd]
 | [],k::ks,x,pre,post=>by have:=Qs [] ks x.2 pre post;rw [Hq]at this ⊢;simp only [DN,map_cons,Bd,PC.frz,this]
 | m::ms,k::ks,x,pre,post=>by have h1:=YG m k x.1 pre (BM ms ks x.2++post);have h2:=Qs ms ks x.2 (pre++Hh m k x.1) post;rw [length_append,(I6 m [] k x.1).1,(I6 m [] k x.1).2]at h2;grind [DN,BM,Bd]
theorem Mg (m:List Nat) (t:VT) (x:Dj T t) (pre post:List OE):(F2 m pre.length t x).frz (pre++(BM m (DH T t) (Le t x)++post))=Dk t x:=by
 cases t with
 | k kd=>
   simp only [F2,PP.frz,Dk,DH,Le];have e1:BM m [kd] ((x,()):DK T.den [kd])=Hh (m.headD 0) kd x:=by
    cases m with
    | nil=>simp only [BM,headD_nil];unfold Hh;cases kd<;>rfl
    | cons y m=>grind [BM]
   rw [e1];exact congrArg V.c (YG (m.headD 0) kd x pre post)
 | s E=>
   simp only [F2,PP.frz,Dk,DH,Le,Qs];exact congrArg V.agg (T.V_ E x)
 | f g=>rfl
theorem Qt: ∀ (ow:List (List Nat)) (ts:List VT) (x:RT T ts) (pre post:List OE),(Bs ow pre.length ts x).map (PP.frz (pre++(CG ow ts x++post)))=BL ts x
 | [],[],_,_,_=>by simp [Bs,BL]
 | _::_,[],_,_,_=>by simp [Bs,BL]
 | [],[t],x,pre,post=>by have:=Mg [] t x pre post;grind [Hq,Bs,CG,BL]
 | m::ms,[t],x,pre,post=>by grind [Mg,Bs,CG,BL]
 | [],t::u::ts,x,pre,post=>by
   have h1:=Mg [] t x.1 pre post;rw [Hq]at h1;have e:CG [] (u::ts) x.2=[]:=by cases ts<;>rfl
   have h2:=Qt [] (u::ts) x.2 pre post;rw [e]at h2;simp only [Bs,CG,map_cons,BL,h1,h2]
 | m::ms,t::u::ts,x,pre,post=>by have h1:=Mg m t x.1 pre (CG ms (u::ts) x.2++post);have h2:=Qt ms (u::ts) x.2 (pre++BM m (DH T t) (Le t x.1)) post;grind [NG,Bs,CG,BL]
theorem eX (ow:List (List Nat)) (ts:List VT) (x:RT T ts):oh (CG ow ts x) (Bs ow 0 ts x)=F8 ts x:=by
 have h:=Qt ow ts x [] [];simp only [List.length_nil,List.nil_append,List.append_nil]at h;unfold oh
 match ts,x,h with
 | [],x,h=>
   grind [F8,BL]
 | [t],x,h=>
   split
   ·rename_i p hp;rw [hp]at h;simp only [map_cons,map_nil,BL,List.cons.injEq,and_true]at h;exact h
   ·rename_i n_;have:=Ew (T:=T) ow 0 [t] x
    match hp:Bs ow 0 [t] x,this,n_ with
    | [p],_,n_=>grind
    | [],h,_=>cases h
    | _::_::_,h,_=>simp at h
 | t::u::ts,x,h=>
   grind [Ew,F8]
def AeZ (Γ:List (CE T P I)) (ac7:GX I) (S_:P.follows .mixedOrders =true) (n:Nat) (f:FuncId) (fn:Func) (body:Code) (h:Hn) (ow:List (List Nat)) (ps rs:List VT) (run:XS T ps->Option (RT T rs)) (hf:P.funcs[f]? =some fn) (hb:fn.body=some body)
    (heq:run=aK Γ n fn body h ow ps rs) (aao:PL.ent P f=true:=by kernel_rfl):CE T P I where
 f:=f
 ps:=ps
 rs:=rs
 run:=run
 ok:=fun x r q=>by have hx:=sC (h:=h) ac7 S_ hf hb aao (heq▸q);have:=hx.flat (by rw [eX];exact YE _ _);rwa [eX]at this
 ow:=ow
 okx:=fun _ x r q=>sC (h:=h) ac7 S_ hf hb aao (by rw [<-heq];exact q)
end
end Go.PL
namespace Go.PL
open Go Go.RowKit
variable {T:AX}
end Go.PL
namespace Go.PL
open Go Go.RowKit Go.Proofs
end Go.PL
namespace Go.PL
open Go Go.RowKit
noncomputable section
inductive Kt (α:Type) where
 | lf
 | nd (l:Kt α) (x:Option α) (r:Kt α)
variable {α:Type}
def Kt.get (t:Kt α):Nat->Option α:=Kt.rec (motive:=fun _=>Nat->Option α) (fun _=>none) (fun _ x _ l r n=>Nat.rec (motive:=fun _=>Option α) x (fun m _=>Bool.rec (motive:=fun _=>Option α) (r (Nat.div m 2)) (l (Nat.div m 2)) (Nat.beq (Nat.mod m 2) 0)) n) t
def Kt.set (k:Nat) (t:Kt α) (n:Nat) (x:Option α):Kt α:=Nat.rec (motive:=fun _=>Kt α->Nat->Kt α) (fun t _=>t)
 (fun _ ih t n=>Kt.rec (motive:=fun _=>Kt α)
  (Nat.rec (motive:=fun _=>Kt α) (.nd .lf x .lf) (fun m _=>Bool.rec (motive:=fun _=>Kt α) (.nd .lf none (ih .lf (Nat.div m 2))) (.nd (ih .lf (Nat.div m 2)) none .lf) (Nat.beq (Nat.mod m 2) 0)) n)
  (fun l y r _ _=>Nat.rec (motive:=fun _=>Kt α) (.nd l x r) (fun m _=>Bool.rec (motive:=fun _=>Kt α) (.nd l y (ih r (Nat.div m 2))) (.nd (ih l (Nat.div m 2)) y r) (Nat.beq (Nat.mod m 2) 0)) n) t) k t n
theorem Kt.get_nd0 (l:Kt α) (x:Option α) (r:Kt α):(Kt.nd l x r).get 0=x:=rfl
theorem Kt.get_ndS (l:Kt α) (x:Option α) (r:Kt α) (n:Nat):(Kt.nd l x r).get (n+1)=match Nat.beq (n % 2) 0 with
 | true=>l.get (n / 2)
 | false=>r.get (n / 2):=by
 show Bool.rec (motive:=fun _=>Option α) (r.get (n / 2)) (l.get (n / 2)) (Nat.beq (n % 2) 0)=_;cases Nat.beq (n % 2) 0<;>rfl
theorem Kt.set_lf0 (k:Nat) (x:Option α):Kt.set (k+1) .lf 0 x= .nd .lf x .lf :=rfl
theorem Kt.set_lfS (k:Nat) (n:Nat) (x:Option α):Kt.set (k+1) .lf (n+1) x=match Nat.beq (n % 2) 0 with
 | true=> .nd (Kt.set k .lf (n / 2) x) none .lf
 | false=> .nd .lf none (Kt.set k .lf (n / 2) x):=by
 show Bool.rec (motive:=fun _=>Kt α) (.nd .lf none (Kt.set k .lf (n / 2) x)) (.nd (Kt.set k .lf (n / 2) x) none .lf) (Nat.beq (n % 2) 0)=_;cases Nat.beq (n % 2) 0<;>rfl
theorem Kt.set_nd0 (k:Nat) (l:Kt α) (y:Option α) (r:Kt α) (x:Option α):Kt.set (k+1) (.nd l y r) 0 x= .nd l x r:=rfl
theorem Kt.set_ndS (k:Nat) (l:Kt α) (y:Option α) (r:Kt α) (n:Nat) (x:Option α):Kt.set (k+1) (.nd l y r) (n+1) x=match Nat.beq (n % 2) 0 with
 | true=> .nd (Kt.set k l (n / 2) x) y r
 | false=> .nd l y (Kt.set k r (n / 2) x):=by
 show Bool.rec (motive:=fun _=>Kt α) (.nd l y (Kt.set k r (n / 2) x)) (.nd (Kt.set k l (n / 2) x) y r) (Nat.beq (n % 2) 0)=_;cases Nat.beq (n % 2) 0<;>rfl
def Kt.put (t:Kt α) (n:Nat) (x:Option α):Kt α:=Kt.set (n+1) t n x
theorem Kt.get_lf (n:Nat):(Kt.lf:Kt α).get n=none:=rfl
theorem Kt.get_set: ∀ (k:Nat) (t:Kt α) (n:Nat) (x:Option α) (m:Nat),n<k->(Kt.set k t n x).get m=if m=n then x else t.get m
 | 0,_,_,_,_,h=>by omega
 | k+1,t,n,x,m,h=>by
   have hb: ∀ a:Nat,Nat.beq (a % 2) 0=true↔a % 2=0:=fun a=>by simp
   cases t<;>cases n
   ·rw [Kt.set_lf0];cases m
    ·rw [Kt.get_nd0];simp
    ·rw [Kt.get_ndS,if_neg (by omega)];split<;>rfl
   ·rename_i n;have ih:=fun y=>Kt.get_set k (.lf :Kt α) (n / 2) x y (by omega);rw [Kt.set_lfS];split<;>rename_i hq<;>cases m
    ·rw [Kt.get_nd0,if_neg (by omega)];rfl
    ·rename_i m;rw [Kt.get_ndS];split<;>rename_i hm
     ·rw [ih];have:=(hb n).1 hq;have:=(hb m).1 hm;by_cases e:m=n
      ·simp [e]
      ·rw [if_neg (by omega),if_neg (by omega)];rfl
     ·rw [if_neg (fun e=>by simp_all)];rfl
    ·rw [Kt.get_nd0,if_neg (by omega)];rfl
    ·rename_i m;rw [Kt.get_ndS];split<;>rename_i hm
     ·rw [if_neg (fun e=>by simp_all)];rfl
     ·rw [ih];have h1: ¬n % 2=0:=fun e=>by simp_all
      have h2: ¬m % 2=0:=fun e=>by simp_all
      by_cases e:m=n
      ·simp [e]
      ·rw [if_neg (by omega),if_neg (by omega)];rfl
   ·rw [Kt.set_nd0];cases m
    ·rw [Kt.get_nd0];simp
    ·rw [Kt.get_ndS,Kt.get_ndS,if_neg (by omega)]
   ·rename_i l y r n;have ih:=fun(t:Kt α) z=>Kt.get_set k t (n / 2) x z (by omega);rw [Kt.set_ndS];split<;>rename_i hq<;>cases m
    ·rw [Kt.get_nd0,Kt.get_nd0,if_neg (by omega)]
    ·rename_i m;rw [Kt.get_ndS,Kt.get_ndS];split<;>rename_i hm
     ·rw [ih];have:=(hb n).1 hq;have:=(hb m).1 hm;by_cases e:m=n
      ·simp [e]
      ·rw [if_neg (by omega),if_neg (by omega)]
     ·rw [if_neg (fun e=>by simp_all)]
    ·rw [Kt.get_nd0,Kt.get_nd0,if_neg (by omega)]
    ·rename_i m;rw [Kt.get_ndS,Kt.get_ndS];split<;>rename_i hm
     ·rw [if_neg (fun e=>by simp_all)]
     ·rw [ih];have h1: ¬n % 2=0:=fun e=>by simp_all
      have h2: ¬m % 2=0:=fun e=>by simp_all
      by_cases e:m=n
      ·simp [e]
      ·rw [if_neg (by omega),if_neg (by omega)]
theorem Kt.get_put (t:Kt α) (n:Nat) (x:Option α) (m:Nat):(t.put n x).get m=if m=n then x else t.get m:=Kt.get_set _ t n x m (Nat.lt_succ_self n)
inductive Kc where
 | i (k:IntKind) (n:Int)
 | b (x:Bool)
 | s (l:List UInt8)
 | z (v:Value)
 | p (id off:Nat)
 | l (id N off len rm:Nat)
 | e
 | f (f:FuncId) (fi ca:List Kc)
 | g (g off:Nat)
 | y (id:Nat)
 | u
inductive Kv where
 | c (x:Kc)
 | a (cs:List Kc)
 | t (vs:List Kv)
 | sk
 | u
structure Kg where
 blk:Nat->Option Nat
 cap:Nat->Option Nat
 df:List Deferred
def Kg.dd (G:Kg) (ds:List Deferred):Kg:=⟨G.blk,G.cap,ds⟩
structure Kg.le (G G':Kg):Prop where
 blk: ∀ i b,G.blk i=some b->G'.blk i=some b
 cap: ∀ i b,G.cap i=some b->G'.cap i=some b
theorem Kg.le_dd (G:Kg) (ds:List Deferred):G.le (G.dd ds):=⟨fun _ _ h=>h,fun _ _ h=>h⟩
theorem Kg.le.refl (G:Kg):G.le G:=⟨fun _ _ h=>h,fun _ _ h=>h⟩
theorem Kg.le.trans {A B D:Kg} (h:A.le B) (k:B.le D):A.le D:=⟨fun i b q=>k.blk i b (h.blk i b q),fun i b q=>k.cap i b (h.cap i b q)⟩
mutual
def KC (G:Kg):Kc->Value->Prop
 | .i k n,v=>v= .int k n
 | .b x,v=>v= .bool x
 | .s l,v=>v= .string ⟨l.toArray⟩
 | .z x,v=>v=x/\v.oneCell'=true
 | .p id off,v=> ∃ b,G.blk id=some b/\v= .pointer (some ⟨b,off,none⟩)
 | .l id N off len rm,v=> ∃ b cap o,G.blk id=some b/\G.cap id=some cap/\len<=rm/\off+rm<=cap/\((off<cap\/off=0)->o=off*N)/\v= .slice (some ⟨b,o,none⟩) len (cap - off)
 | .e,v=> ∃ p,v= .slice p 0 0
 | .f f fi ca,v=> ∃ x y:Array Value,v= .func (.func f) x y/\KL G fi x.toList/\KL G ca y.toList
 | .g g off,v=>v= .pointer (some ⟨g,off,none⟩)
 | .y id,v=> ∃ l,G.blk id=some l/\v= .func (.yield l) #[] #[]
 | .u,v=>v.oneCell'=true
def KL (G:Kg):List Kc->List Value->Prop
 | [],vs=>vs=[]
 | c::cs,vs=> ∃ v r,vs=v::r/\KC G c v/\KL G cs r
end
mutual
def KV (G:Kg):Kv->Value->Prop
 | .c x,v=>KC G x v
 | .a cs,v=> ∃ arr:Array Value,v= .agg arr/\KL G cs arr.toList
 | .t vs,v=> ∃ arr:Array Value,v= .tuple arr/\Iq G vs arr.toList
 | .sk,v=>v=Go.undef
 | .u,_=>True
def Iq (G:Kg):List Kv->List Value->Prop
 | [],vs=>vs=[]
 | x::xs,vs=> ∃ v r,vs=v::r/\KV G x v/\Iq G xs r
end
mutual
theorem KC.mono {G G':Kg} (hg:G.le G'): ∀ {c:Kc} {v:Value},KC G c v->KC G' c v
 | .i ..,_,h=>h
 | .b ..,_,h=>h
 | .s ..,_,h=>h
 | .z ..,_,h=>h
 | .p ..,_,⟨b,h1,h2⟩=>⟨b,hg.blk _ _ h1,h2⟩
 | .l ..,_,⟨b,cap,o,h1,h2,h3⟩=>⟨b,cap,o,hg.blk _ _ h1,hg.cap _ _ h2,h3⟩
 | .e,_,h=>h
 | .f ..,_,⟨x,y,h1,h2,h3⟩=>⟨x,y,h1,KL.mono hg h2,KL.mono hg h3⟩
 | .g ..,_,h=>h
 | .y ..,_,⟨l,h1,h2⟩=>⟨l,hg.blk _ _ h1,h2⟩
 | .u,_,h=>h
theorem KL.mono {G G':Kg} (hg:G.le G'): ∀ {cs:List Kc} {vs:List Value},KL G cs vs->KL G' cs vs
 | [],_,h=>h
 | _::_,_,⟨v,r,h1,h2,h3⟩=>⟨v,r,h1,KC.mono hg h2,KL.mono hg h3⟩
end
mutual
theorem KV.mono {G G':Kg} (hg:G.le G'): ∀ {x:Kv} {v:Value},KV G x v->KV G' x v
 | .c _,_,h=>KC.mono hg h
 | .a _,_,⟨arr,h1,h2⟩=>⟨arr,h1,KL.mono hg h2⟩
 | .t _,_,⟨arr,h1,h2⟩=>⟨arr,h1,Iq.mono hg h2⟩
 | .sk,_,h=>h
 | .u,_,_=>trivial
theorem Iq.mono {G G':Kg} (hg:G.le G'): ∀ {xs:List Kv} {vs:List Value},Iq G xs vs->Iq G' xs vs
 | [],_,h=>h
 | _::_,_,⟨v,r,h1,h2,h3⟩=>⟨v,r,h1,KV.mono hg h2,Iq.mono hg h3⟩
end
theorem KC.one {G:Kg} {c:Kc} {v:Value} (h:KC G c v):v.oneCell'=true:=by cases c<;>simp only [KC]at h<;>grind [Value.oneCell']
section
variable {G:Kg}
theorem KL.one: ∀ {cs:List Kc} {vs:List Value},KL G cs vs-> ∀ v∈vs,v.oneCell'=true
 | [],_,h,v,hv=>by simp only [KL]at h;subst h;simp at hv
 | c::cs,_,⟨x,r,h1,h2,h3⟩,v,hv=>by
   subst h1;rcases mem_cons.1 hv with rfl | q
   ·exact h2.one
   ·exact KL.one h3 v q
theorem KL.len: ∀ {cs:List Kc} {vs:List Value},KL G cs vs->cs.length=vs.length
 | [],_,h=>by simp only [KL]at h;subst h;rfl
 | c::cs,_,⟨x,r,h1,_,h3⟩=>by subst h1;simp [KL.len h3]
theorem Iq.len: ∀ {cs:List Kv} {vs:List Value},Iq G cs vs->cs.length=vs.length
 | [],_,h=>by simp only [Iq]at h;subst h;rfl
 | c::cs,_,⟨x,r,h1,_,h3⟩=>by subst h1;simp [Iq.len h3]
theorem KL.append: ∀ {cs ds:List Kc} {us vs:List Value},KL G cs us->KL G ds vs->KL G (cs++ds) (us++vs)
 | [],_,_,_,h,h2=>by simp only [KL]at h;subst h;exact h2
 | c::cs,_,_,_,⟨x,r,h1,h3,h4⟩,h2=>by subst h1;exact⟨x,_,rfl,h3,KL.append h4 h2⟩
theorem KL.take: ∀ {cs:List Kc} {vs:List Value} (n:Nat),KL G cs vs->KL G (cs.take n) (vs.take n)
 | [],_,n,h=>by simp only [KL]at h;subst h;simp [KL]
 | c::cs,_,0,_=>by simp [KL]
 | c::cs,_,n+1,⟨x,r,h1,h3,h4⟩=>by subst h1;exact⟨x,_,rfl,h3,KL.take n h4⟩
theorem KL.drop: ∀ {cs:List Kc} {vs:List Value} (n:Nat),KL G cs vs->KL G (cs.drop n) (vs.drop n)
 | [],_,n,h=>by simp only [KL]at h;subst h;simp [KL]
 | c::cs,_,0,h=>h
 | c::cs,_,n+1,⟨x,r,h1,h3,h4⟩=>by subst h1;exact KL.drop n h4
theorem KL.get: ∀ {cs:List Kc} {vs:List Value} {i:Nat} {c:Kc},KL G cs vs->cs[i]? =some c-> ∃ v,vs[i]? =some v/\KC G c v
 | [],_,_,_,_,h=>by simp at h
 | c::cs,_,0,_,⟨x,r,h1,h3,h4⟩,h=>by subst h1;simp at h;subst h;exact⟨x,by simp,h3⟩
 | c::cs,_,i+1,_,⟨x,r,h1,h3,h4⟩,h=>by subst h1;simpa using KL.get (i:=i) h4 (by simpa using h)
theorem Iq.get: ∀ {cs:List Kv} {vs:List Value} {i:Nat} {c:Kv},Iq G cs vs->cs[i]? =some c-> ∃ v,vs[i]? =some v/\KV G c v
 | [],_,_,_,_,h=>by simp at h
 | c::cs,_,0,_,⟨x,r,h1,h3,h4⟩,h=>by subst h1;simp at h;subst h;exact⟨x,by simp,h3⟩
 | c::cs,_,i+1,_,⟨x,r,h1,h3,h4⟩,h=>by subst h1;simpa using Iq.get (i:=i) h4 (by simpa using h)
theorem Iq.append: ∀ {cs ds:List Kv} {us vs:List Value},Iq G cs us->Iq G ds vs->Iq G (cs++ds) (us++vs)
 | [],_,_,_,h,h2=>by simp only [Iq]at h;subst h;exact h2
 | c::cs,_,_,_,⟨x,r,h1,h3,h4⟩,h2=>by subst h1;exact⟨x,_,rfl,h3,Iq.append h4 h2⟩
theorem Iq.ofL: ∀ {cs:List Kc} {vs:List Value},KL G cs vs->Iq G (cs.map Kv.c) vs
 | [],_,h=>by simp only [KL]at h;subst h;rfl
 | c::cs,_,⟨x,r,h1,h3,h4⟩=>by subst h1;exact⟨x,_,rfl,h3,Iq.ofL h4⟩
def Kv.cells:Kv->Option (List Kc)
 | .c x=>some [x]
 | .a cs=>some cs
 | _=>none
theorem KV.cells {x:Kv} {v:Value} {cs:List Kc} (h:KV G x v) (hc:x.cells=some cs):KL G cs v.cells.toList:=by
 unfold Kv.cells at hc;split at hc
 ·injection hc with hc;subst hc;simp only [KV]at h;have h1:=h.one;have:v.cells= #[v]:=by cases v<;>first | rfl | (simp [Value.oneCell']at h1)
  rw [this];exact⟨v,[],rfl,h,rfl⟩
 ·injection hc with hc;subst hc;obtain⟨arr,rfl,h2⟩:=h;exact h2
 ·cases hc
end
def wM (n:Nat) (l:List Kc):List Kc:=Nat.rec (motive:=fun _=>List Kc->List Kc) (fun l=>l) (fun _ ih l=>List.rec (motive:=fun _=>List Kc) [] (fun _ t _=>ih t) l) n l
def aL (c:Kc) (o:Option (List Kc)):Option (List Kc):=Option.rec (motive:=fun _=>Option (List Kc)) none (fun l=>some (c::l)) o
def ktk (n:Nat) (l:List Kc):Option (List Kc):=Nat.rec (motive:=fun _=>List Kc->Option (List Kc)) (fun _=>some []) (fun _ ih l=>List.rec (motive:=fun _=>Option (List Kc)) none (fun c t _=>aL c (ih t)) l) n l
def wN (n:Nat) (xs l:List Kc):Option (List Kc):=Nat.rec (motive:=fun _=>List Kc->Option (List Kc)) (fun _=>some xs) (fun _ ih l=>List.rec (motive:=fun _=>Option (List Kc)) none (fun c t _=>aL c (ih t)) l) n l
def wO (xs l:List Kc):Option (List Kc):=List.rec (motive:=fun _=>List Kc->Option (List Kc)) (fun l=>some l) (fun x _ ih l=>List.rec (motive:=fun _=>Option (List Kc)) none (fun _ t _=>aL x (ih t)) l) xs l
def o6 (n:Nat) (xs l:List Kc):Option (List Kc):=Nat.rec (motive:=fun _=>List Kc->Option (List Kc)) (fun l=>wO xs l) (fun _ ih l=>List.rec (motive:=fun _=>Option (List Kc)) none (fun c t _=>aL c (ih t)) l) n l
theorem SQ {c:Kc} {o:Option (List Kc)} {r:List Kc} (h:aL c o=some r): ∃ l,o=some l/\r=c::l:=by
 cases o with
 | none=>cases h
 | some l=>exact⟨l,rfl,by injection h with h;exact h.symm⟩
theorem SR: ∀ (n:Nat) (l:List Kc),wM n l=l.drop n
 | 0,l=>by simp;rfl
 | n+1,[]=>rfl
 | n+1,c::l=>by have:=SR n l;exact this
theorem jB: ∀ {n:Nat} {l r:List Kc},ktk n l=some r->r=l.take n/\n<=l.length
 | 0,l,r,h=>by injection h with h;subst h;simp
 | n+1,[],r,h=>by cases h
 | n+1,c::l,r,h=>by obtain⟨t,h1,rfl⟩:=SQ (show aL c (ktk n l)=some r from h);obtain⟨k1,k2⟩:=jB h1;exact⟨by rw [k1];rfl,by simpa using k2⟩
theorem aM: ∀ {n:Nat} {xs l r:List Kc},wN n xs l=some r->r=l.take n++xs/\n<=l.length
 | 0,xs,l,r,h=>by injection h with h;subst h;simp
 | n+1,xs,[],r,h=>by cases h
 | n+1,xs,c::l,r,h=>by obtain⟨t,h1,rfl⟩:=SQ (show aL c (wN n xs l)=some r from h);obtain⟨k1,k2⟩:=aM h1;exact⟨by rw [k1];rfl,by simpa using k2⟩
theorem mF: ∀ {xs l r:List Kc},wO xs l=some r->r=xs++l.drop xs.length/\xs.length<=l.length
 | [],l,r,h=>by injection h with h;subst h;simp
 | x::xs,[],r,h=>by cases h
 | x::xs,c::l,r,h=>by obtain⟨t,h1,rfl⟩:=SQ (show aL x (wO xs l)=some r from h);obtain⟨k1,k2⟩:=mF h1;exact⟨by rw [k1];simp,by simpa using k2⟩
theorem Mh: ∀ {n:Nat} {xs l r:List Kc},o6 n xs l=some r->r=l.take n++xs++l.drop (n+xs.length)/\n+xs.length<=l.length
 | 0,xs,l,r,h=>by obtain⟨k1,k2⟩:=mF (show wO xs l=some r from h);exact⟨by simp [k1],by simpa using k2⟩
 | n+1,xs,[],r,h=>by cases h
 | n+1,xs,c::l,r,h=>by obtain⟨t,h1,rfl⟩:=SQ (show aL c (o6 n xs l)=some r from h);obtain⟨k1,k2⟩:=Mh h1;refine⟨?_,by simp;omega⟩;rw [k1,show n+1+xs.length=(n+xs.length)+1 by omega];simp
def kc1:Value->Kc
 | .int k n=> .i k n
 | .bool x=> .b x
 | .string s=> .s s.data.toList
 | v=> .z v
def sD:Value->Bool
 | .agg _=>false
 | .tuple _=>false
 | _=>true
def Aav:Value->Kv
 | .agg cs=>match cs.toList.all sD with
   | true=> .a (cs.toList.map kc1)
   | false=> .u
 | .tuple _=> .u
 | v=> .c (kc1 v)
theorem sE {G:Kg} {v:Value} (h:sD v=true):KC G (kc1 v) v:=by cases v<;>simp [sD]at h<;>simp [kc1,KC,Value.oneCell']
theorem aO {G:Kg}: ∀ {vs:List Value},vs.all sD=true->KL G (vs.map kc1) vs
 | [],_=>rfl
 | v::vs,h=>by simp only [all_cons,and_eq_true]at h;exact⟨v,vs,rfl,sE h.1,aO h.2⟩
theorem wP {G:Kg} (v:Value):KV G (Aav v) v:=by
 cases v<;>simp only [Aav]
 case agg cs=>
  split
  ·rename_i h;exact⟨cs,rfl,aO h⟩
  ·trivial
 case tuple=>trivial
 all_goals exact sE rfl
def gt (tm:Kt Kv) (i:Nat):Kv:=match tm.get i with
 | some v=>v
 | none=> .u
structure SK (n:Nat) (tm:Kt Kv) (a:Act) (G:Kg):Prop where
 dfr:a.defers=G.df
 size:a.tmps.size=n
 sl: ∀ i,KV G (gt tm i) (a.tmps.getD i Go.undef)
theorem SK.mono {n:Nat} {tm:Kt Kv} {a:Act} {G G':Kg} (hg:G.le G') (hd:G'.df=G.df) (h:SK n tm a G):SK n tm a G':=⟨h.dfr.trans hd.symm,h.size,fun i=>(h.sl i).mono hg⟩
def sF (n:Nat) (tm:Kt Kv) (d:Option Nat) (v:Kv):Option (Kt Kv):=match d with
 | none=>some tm
 | some d=>match Nat.blt d n with
   | true=>some (tm.put d (some v))
   | false=>none
theorem SK.put {n:Nat} {tm L_:Kt Kv} {a:Act} {G:Kg} (h:SK n tm a G) {d:Option Nat} {x:Kv} {v:Value} (hx:KV G x v) (hp:sF n tm d x=some L_):SK n L_ (a.put d v) G:=by
 unfold sF at hp;split at hp
 ·injection hp with hp;subst hp;exact h
 ·rename_i d;split at hp
  ·rename_i hd;injection hp with hp;subst hp;have hd:d<n:=by simpa using hd
   refine⟨h.dfr,by simp [Act.put,h.size],fun i=>?_⟩;have hi:=h.sl i;simp only [gt,Kt.get_put,Act.put,getD_eq_getD_getElem?,Array.getElem?_setIfInBounds]at hi ⊢;by_cases e:d=i
   ·subst e;simp [h.size,hd];exact hx
   ·rw [if_neg (Ne.symm e),if_neg e];exact hi
  ·cases hp
def Fa (tm:Kt Kv):Operand->Kv
 | .tmp t=>gt tm t
 | .const v=>Aav v
 | .func f=> .c (.f f [] [])
 | .global g=> .c (.g g 0)
theorem SK.ev {n:Nat} {tm:Kt Kv} {a:Act} {G:Kg} (h:SK n tm a G) (x:Operand):KV G (Fa tm x) (a.eval x):=by
 cases x with
 | tmp t=>exact h.sl t
 | const v=>exact wP v
 | func f=>exact⟨#[], #[],rfl,rfl,rfl⟩
 | global g=>rfl
theorem SK.evs {n:Nat} {tm:Kt Kv} {a:Act} {G:Kg} (h:SK n tm a G): ∀ xs:List Operand,Iq G (xs.map (Fa tm)) (xs.map a.eval)
 | []=>rfl
 | x::xs=>⟨_,_,rfl,h.ev x,h.evs xs⟩
end
end Go.PL
namespace Go.PL
open Go Go.RowKit
noncomputable section
structure Ke where
 row:Option (Nat×Nat)
 cs:List Kc
 ro:Bool:=false
def WY (w:World) (G:Kg) (id:Nat) (e:Ke):Prop:=
 ∃ b T cur fz,(e.ro=false->fz=(0,0))/\G.blk id=some b/\w.heap[b]? =some (.cells cur T fz)/\e.cs.length<=cur.size/\KL G e.cs (cur.toList.take e.cs.length)/\
   match e.row with
   | none=>True
   | some (E,N)=>T=E/\(N=0->cur.size=e.cs.length)/\(0<N-> ∃ cap,G.cap id=some cap/\cur.size=cap*N/\cap<=maxLen)
structure KYr where
 tm:Kt Kv
 n:Nat
 ps:Array Tmp
 asg:Code
 bd:Code
abbrev aP:=List (Nat×KYr)
structure KF where
 w0:World
 I:World->Prop
 Y:aP
def KRC (h:Kt Ke) (w:World) (G:Kg) (n0:Nat) (q:Nat×KYr):Prop:= ∃ l r,G.blk q.1=some l/\n0<=l/\w.heap[l]? =some (.loop r)/\(∀ i e,h.get i=some e->G.blk i ≠ some l)/\
 r.state= .ready /\r.pending=none/\r.params=q.2.ps/\r.assign=q.2.asg/\r.body=q.2.bd/\r.tmps.size=q.2.n/\ ∀ i,KV G (gt q.2.tm i) (r.tmps.getD i Go.undef)
theorem KRC.mono {h h':Kt Ke} {w w':World} {G G':Kg} {n0:Nat} {q:Nat×KYr} (hq:KRC h w G n0 q) (hle:G.le G') (afw: ∀ b,b<w.heap.size->(∀ i e,h.get i=some e->G.blk i ≠ some b)->w'.heap[b]? =w.heap[b]?)
 (z_: ∀ i e b,h'.get i=some e->G'.blk i=some b->w.heap.size<=b\/ ∃ j d,h.get j=some d/\G.blk j=some b):KRC h' w' G' n0 q:=by
 obtain⟨l,r,h1,h2,h3,h4,h5,h6,h7,h8,h9,h10,h11⟩:=hq;have hl:l<w.heap.size:=(Array.getElem?_eq_some_iff.1 h3).1;refine⟨l,r,hle.blk _ _ h1,h2,(afw l hl h4).trans h3,fun i e hi hb=>?_,h5,h6,h7,h8,h9,h10,fun i=>(h11 i).mono hle⟩;rcases z_ i e l hi hb with z | ⟨j,d,z1,z2⟩
 ·omega
 ·exact h4 j d z1 z2
structure HK (F:KF) (c:Nat) (h:Kt Ke) (w:World) (G:Kg):Prop where
 ent: ∀ i e,h.get i=some e->WY w G i e
 inj: ∀ i j e d b,h.get i=some e->h.get j=some d->G.blk i=some b->G.blk j=some b->i=j
 new: ∀ i e b,h.get i=some e->G.blk i=some b->F.w0.heap.size<=b
 fr: ∀ i,c<=i->G.blk i=none/\G.cap i=none
 inv: ∀ w',F.w0.heap.size<=w'.heap.size->(∀ b,b<F.w0.heap.size->w'.heap[b]? =F.w0.heap[b]?)->F.I w'
 out:DD F.w0 w
 hsize:F.w0.heap.size<=w.heap.size
 ext: ∀ b,b<F.w0.heap.size->w.heap[b]? =F.w0.heap[b]?
 rcs: ∀ q∈F.Y,KRC h w G F.w0.heap.size q
structure CP (h:Kt Ke) (G:Kg) (w:World) (h':Kt Ke) (G':Kg) (w':World):Prop where
 le:G.le G'
 size:w.heap.size<=w'.heap.size
 frm: ∀ b,b<w.heap.size->(∀ i e,h.get i=some e->G.blk i ≠ some b)->w'.heap[b]? =w.heap[b]?
 own: ∀ i e b,h'.get i=some e->G'.blk i=some b->w.heap.size<=b\/ ∃ j d,h.get j=some d/\G.blk j=some b
 out:DD w w'
 df:G'.df=G.df
def Kp (c:Nat) (G G':Kg):Prop:= ∀ i,i<c->G'.blk i=G.blk i/\G'.cap i=G.cap i
theorem sG (w:World):DD w w:=⟨rfl,rfl,rfl⟩
theorem OC {a b c:World} (h:DD a b) (k:DD b c):DD a c:=⟨k.os.trans h.os,k.tape.trans h.tape,k.output.trans h.output⟩
theorem Kp.refl (c:Nat) (G:Kg):Kp c G G:=fun _ _=>⟨rfl,rfl⟩
theorem Kp.trans {c d:Nat} {A B D:Kg} (h:Kp c A B) (k:Kp d B D) (hcd:c<=d):Kp c A D:=fun i hi=>
 ⟨(k i (lt_of_lt_of_le hi hcd)).1.trans (h i hi).1,(k i (lt_of_lt_of_le hi hcd)).2.trans (h i hi).2⟩
theorem CP.refl (h:Kt Ke) (G:Kg) (w:World):CP h G w h G w:=⟨Kg.le.refl G,le_refl _,fun _ _ _=>rfl,fun i e _ h1 h2=> .inr ⟨i,e,h1,h2⟩,sG w,rfl⟩
theorem CP.trans {h h1 h2:Kt Ke} {G G1 G2:Kg} {w w1 w2:World} (a:CP h G w h1 G1 w1) (b:CP h1 G1 w1 h2 G2 w2):CP h G w h2 G2 w2 where
 le:=a.le.trans b.le
 size:=le_trans a.size b.size
 frm:=fun k hk hu=>by
  refine(b.frm k (lt_of_lt_of_le hk a.size) fun i e hi hb=>?_).trans (a.frm k hk hu);rcases a.own i e k hi hb with q | ⟨j,d,q1,q2⟩
  ·omega
  ·exact hu j d q1 q2
 own:=fun i e k hi hb=>by
  rcases b.own i e k hi hb with q | ⟨j,d,q1,q2⟩
  ·exact .inl (le_trans a.size q)
  ·exact a.own j d k q1 q2
 out:=OC a.out b.out
 df:=b.df.trans a.df
section
variable {F:KF} {c:Nat} {h:Kt Ke} {w:World} {G:Kg}
theorem HK.lt (hk:HK F c h w G) {i:Nat} {e:Ke} {b:Nat} (hi:h.get i=some e) (hb:G.blk i=some b):b<w.heap.size:=by obtain⟨b',T,cur,fz,_,h1,h2,_⟩:=hk.ent i e hi;rw [hb]at h1;injection h1 with h1;subst h1;exact(Array.getElem?_eq_some_iff.1 h2).1
theorem WY.mono {w w':World} {G G':Kg} {i:Nat} {e:Ke} (hg:G.le G') (hb: ∀ b,G.blk i=some b->w'.heap[b]? =w.heap[b]?) (h:WY w G i e):WY w' G' i e:=by
 obtain⟨b,T,cur,fz,h0,h1,h2,h3,h4,h5⟩:=h;refine⟨b,T,cur,fz,h0,hg.blk _ _ h1,by rw [hb b h1];exact h2,h3,h4.mono hg,?_⟩;cases hr:e.row with
 | none=>trivial
 | some q=>
   rw [hr]at h5;obtain⟨k1,k0,k2⟩:=h5;exact⟨k1,k0,fun q=>have ⟨cap,k2,k3⟩:=k2 q;⟨cap,hg.cap _ _ k2,k3⟩⟩
theorem HK.turn (hk:HK F c h w G) {h':Kt Ke} {c':Nat} {G':Kg} {w':World} {id tb ob:Nat} (ho:DD w w') (hs:w.heap.size<=w'.heap.size)
 (aad: ∀ b,b<w.heap.size->b ≠ tb->b ≠ ob->w'.heap[b]? =w.heap[b]?) (htb:w.heap.size<=tb\/ ∃ j d,h.get j=some d/\G.blk j=some tb) (hob:w.heap.size<=ob\/ ∃ j d,h.get j=some d/\G.blk j=some ob) (hle:G.le G')
 (hfr: ∀ i,c'<=i->G'.blk i=none/\G'.cap i=none)
 (hh: ∀ i e,h'.get i=some e->(i=id/\WY w' G' i e/\G'.blk i=some tb)\/(i ≠ id/\h.get i=some e/\ ∀ b,G.blk i=some b->b ≠ tb/\b ≠ ob)) (hdf:G'.df=G.df:=by rfl):
 HK F c' h' w' G'/\CP h G w h' G' w':=by
 have Tc: ∀ i e,h.get i=some e-> ∀ b,G'.blk i=some b->G.blk i=some b:=fun i e hi b hb=>by obtain⟨b',_,_,_,_,h1,_⟩:=hk.ent i e hi;have:=hle.blk _ _ h1;rw [hb]at this;injection this with this;subst this;exact h1
 have hn: ∀ tb,(w.heap.size<=tb\/ ∃ j d,h.get j=some d/\G.blk j=some tb)->F.w0.heap.size<=tb:=fun tb htb=>by
  rcases htb with q | ⟨j,d,q1,q2⟩
  ·exact le_trans hk.hsize q
  ·exact hk.new j d tb q1 q2
 have hn1:=hn tb htb;have hn2:=hn ob hob;have IN:CP h G w h' G' w':=by
  refine⟨hle,hs,fun b hb hu=>?_,fun i e b hi hb=>?_,ho,hdf⟩
  ·have un: ∀ tb,(w.heap.size<=tb\/ ∃ j d,h.get j=some d/\G.blk j=some tb)->b ≠ tb:=fun tb htb e=>by
    subst e;rcases htb with q | ⟨j,d,q1,q2⟩
    ·omega
    ·exact hu j d q1 q2
   exact aad b hb (un tb htb) (un ob hob)
  ·rcases hh i e hi with ⟨_,_,q⟩ | ⟨_,q,_⟩
   ·rw [hb]at q;injection q with q;subst q;exact htb
   ·exact .inr ⟨i,e,q,Tc i e q b hb⟩
 refine⟨⟨fun i e hi=>?_,fun i j e d b hi hj hbi hbj=>?_,fun i e b hi hb=>?_,hfr,hk.inv,OC hk.out ho,le_trans hk.hsize hs,fun b hb=>?_,fun q hq=>(hk.rcs q hq).mono IN.le IN.frm IN.own⟩,IN⟩
 ·rcases hh i e hi with ⟨_,q,_⟩ | ⟨_,q,q2⟩
  ·exact q
  ·exact WY.mono hle (fun b hb=>aad b (hk.lt q hb) (q2 b hb).1 (q2 b hb).2) (hk.ent i e q)
 ·rcases hh i e hi with ⟨q1,_,q3⟩ | ⟨q1,q2,q3⟩<;>rcases hh j d hj with ⟨p1,_,p3⟩ | ⟨p1,p2,p3⟩
  ·omega
  ·rw [hbi]at q3;injection q3 with q3;exact absurd q3 (p3 b (Tc j d p2 b hbj)).1
  ·rw [hbj]at p3;injection p3 with p3;exact absurd p3 (q3 b (Tc i e q2 b hbi)).1
  ·exact hk.inj i j e d b q2 p2 (Tc i e q2 b hbi) (Tc j d p2 b hbj)
 ·rcases hh i e hi with ⟨_,_,q⟩ | ⟨_,q,_⟩
  ·rw [hb]at q;injection q with q;omega
  ·exact hk.new i e b q (Tc i e q b hb)
 ·rw [aad b (lt_of_lt_of_le hb hk.hsize) (by omega) (by omega)];exact hk.ext b hb
def Kg.set (G:Kg) (id b:Nat) (cp:Option Nat):Kg:=⟨fun i=>match Nat.beq i id with | true=>some b | false=>G.blk i,fun i=>match Nat.beq i id with | true=>cp | false=>G.cap i,G.df⟩
theorem Kg.set_blk (G:Kg) (id b:Nat) (cp:Option Nat) (i:Nat):(G.set id b cp).blk i=if i=id then some b else G.blk i:=by
 simp only [Kg.set];by_cases q:i=id
 ·subst q;simp
 ·rw [if_neg q];have:Nat.beq i id=false:=by cases hq:Nat.beq i id<;>simp_all
  rw [this]
theorem Kg.set_cap (G:Kg) (id b:Nat) (cp:Option Nat) (i:Nat):(G.set id b cp).cap i=if i=id then cp else G.cap i:=by
 simp only [Kg.set];by_cases q:i=id
 ·subst q;simp
 ·rw [if_neg q];have:Nat.beq i id=false:=by cases hq:Nat.beq i id<;>simp_all
  rw [this]
theorem Kg.set_le {G:Kg} {id b:Nat} {cp:Option Nat} (h1:G.blk id=none) (h2:G.cap id=none):G.le (G.set id b cp):=
 ⟨fun i x hx=>by rw [Kg.set_blk,if_neg (fun e=>by simp_all)];exact hx,fun i x hx=>by rw [Kg.set_cap,if_neg (fun e=>by simp_all)];exact hx⟩
def eY:Option (Nat×Nat)->Nat->Option Nat
 | none,_=>none
 | some _,k=>some k
theorem HK.made (hk:HK F c h w G) (id:Nat) {c':Nat} (hid:id<c') (hc:c<=c') (hun:G.blk id=none/\G.cap id=none) (hh:h.get id=none) {cur:Array Value} {T:TypeId} {e:Ke} {k:Nat} (hl:e.cs.length<=cur.size) (hr:KL G e.cs (cur.toList.take e.cs.length))
 (m_: ∀ E N,e.row=some (E,N)->T=E/\(N=0->cur.size=e.cs.length)/\(0<N->cur.size=k*N/\k<=maxLen)):
 HK F c' (h.put id (some e)) (w.alloc (.cells cur T)) (G.set id w.heap.size (eY e.row k))/\CP h G w (h.put id (some e)) (G.set id w.heap.size (eY e.row k)) (w.alloc (.cells cur T)):=by
 have abe:=EP w (.cells cur T);have hle:G.le (G.set id w.heap.size (eY e.row k)):=Kg.set_le hun.1 hun.2;refine hk.turn (id:=id) (tb:=w.heap.size) (ob:=w.heap.size) (Fu _ _) abe.size (fun b hb _ _=>abe.block b hb) (.inl (le_refl _)) (.inl (le_refl _)) hle (fun i hi=>?_) fun i d hi=>?_
 ·rw [Kg.set_blk,Kg.set_cap,if_neg (by omega),if_neg (by omega)];exact hk.fr i (by omega)
 ·rw [Kt.get_put]at hi;by_cases q:i=id
  ·rw [if_pos q]at hi;injection hi with hi;subst hi q;refine .inl ⟨rfl,⟨w.heap.size,T,cur,(0,0),fun _=>rfl,by simp [Kg.set_blk],by simp [EO],hl,hr.mono hle,?_⟩,by simp [Kg.set_blk]⟩;cases hq:e.row with
   | none=>trivial
   | some EN=>
     obtain⟨h1,h0,h2⟩:=m_ EN.1 EN.2 (by rw [hq]);exact⟨h1,h0,fun q=>⟨k,by simp [Kg.set_cap,eY,hq],h2 q⟩⟩
  ·rw [if_neg q]at hi;exact .inr ⟨q,hi,fun b hb=>by have:=hk.lt hi hb;omega⟩
theorem HK.stored (hk:HK F c h w G) {id:Nat} {e:Ke} (he:h.get id=some e) (hro:e.ro=false) {off:Nat} {xs:List Kc} {vs:List Value} (hx:KL G xs vs) (aaC:off+xs.length<=e.cs.length):
 ∃ b T cur,G.blk id=some b/\w.heap[b]? =some (.cells cur T (0,0))/\off+vs.length<=cur.size/\
   HK F c (h.put id (some ⟨e.row,e.cs.take off++xs++e.cs.drop (off+xs.length),false⟩)) (w.setRow b (cur.toList.take off++vs++cur.toList.drop (off+vs.length)).toArray) G/\
   CP h G w (h.put id (some ⟨e.row,e.cs.take off++xs++e.cs.drop (off+xs.length),false⟩)) G (w.setRow b (cur.toList.take off++vs++cur.toList.drop (off+vs.length)).toArray):=by
 obtain⟨b,T,cur,fz,h0,h1,h2,h3,h4,h5⟩:=hk.ent id e he;have h0:=h0 hro;subst h0;have hlx:=hx.len;have hlen:(cur.toList.take off++vs++cur.toList.drop (off+vs.length)).length =cur.size:=by simp;omega
 refine⟨b,T,cur,h1,h2,by omega,?_⟩;refine hk.turn (id:=id) (tb:=b) (ob:=b) ⟨rfl,rfl,rfl⟩ (by simp) (fun k _ n_ _=>setRow_other w b k _ n_) (.inr ⟨id,e,he,h1⟩) (.inr ⟨id,e,he,h1⟩) (Kg.le.refl G) hk.fr fun i d hi=>?_;rw [Kt.get_put]at hi;by_cases q:i=id
 ·rw [if_pos q]at hi;injection hi with hi;subst hi q;refine .inl ⟨rfl,⟨b,T,_,(0,0),fun _=>rfl,h1,setRow_heap w b cur _ T (0,0) h2,by simp;omega,?_,?_⟩,h1⟩
  ·have e1:(e.cs.take off++xs++e.cs.drop (off+xs.length)).length =e.cs.length:=by simp;omega
   simp only [e1];have e2:(cur.toList.take off++vs++cur.toList.drop (off+vs.length)).take e.cs.length=(cur.toList.take e.cs.length).take off++vs++(cur.toList.take e.cs.length).drop (off+vs.length):=by
    have hc:cur.toList.length=cur.size:=by simp
    rw [List.take_append,List.take_append,List.drop_take,take_take,take_take];have a1:min e.cs.length off=off:=by omega
    have a2:(List.take off cur.toList).length =off:=by simp;omega
    rw [List.take_of_length_le (l:=vs) (by simp;omega)];simp only [length_append,a2];rw [show min off e.cs.length=off from by omega,a1,show e.cs.length - (off+vs.length)=e.cs.length - (off+vs.length)from rfl]
   rw [e2,hlx];exact((h4.take off).append hx).append (h4.drop _)
  ·cases hq:e.row with
   | none=>trivial
   | some EN=>
     rw [hq]at h5;obtain⟨k1,k0,k2⟩:=h5;exact⟨k1,fun q=>by have:=k0 q;simp at hlen hlx ⊢;omega,fun q=>have ⟨cap,k2,k3,k4⟩:=k2 q;⟨cap,k2,by rw [<-k3];simpa using hlen,k4⟩⟩
 ·rw [if_neg q]at hi;have un: ∀ k,G.blk i=some k->k ≠ b:=fun k hk' e2=>q (hk.inj i id d e k hi he hk' (by rw [e2];exact h1));exact .inr ⟨q,hi,fun k hk'=>⟨un k hk',un k hk'⟩⟩
end
end
end Go.PL
namespace Go.PL
open Go Go.RowKit
noncomputable section
def gx (G:Kg):Ax:=⟨fun l=>match l with | [i]=>G.blk i | _=>none,fun _=>none,fun _=>False⟩
def Kc.c:Kc->Option C
 | .i k n=>some (.int k n)
 | .b x=>some (.bool x)
 | .s x=>some (.str x)
 | _=>none
def Kc.cs:List Kc->Option (List C)
 | []=>some []
 | c::cs=>match c.c,Kc.cs cs with
   | some x,some xs=>some (x::xs)
   | _,_=>none
def kI:C->Option Kv
 | .int k n=>some (.c (.i k n))
 | .bool b=>some (.c (.b b))
 | .str s=>some (.c (.s s))
 | _=>none
section
variable {G:Kg} {w:World}
theorem Kc.c_ok {c:Kc} {x:C} {v:Value} (h:c.c=some x) (hv:KC G c v):Ab w (gx G) x v:=by
 cases c<;>simp only [Kc.c]at h<;>first
  | (injection h with h;subst h;simpa only [KC,Ab] using hv)
  | cases h
theorem Kc.cs_ok: ∀ {cs:List Kc} {xs:List C} {vs:List Value},Kc.cs cs=some xs->KL G cs vs->Ae w (gx G) xs vs
 | [],_,_,h,hv=>by simp only [Kc.cs]at h;injection h with h;subst h;simp only [KL]at hv;subst hv;simp [Ae]
 | c::cs,_,_,h,⟨v,r,h1,h2,h3⟩=>by
   simp only [Kc.cs]at h;split at h
   ·rename_i x xs e1 e2;injection h with h;subst h h1;exact⟨Kc.c_ok e1 h2,Kc.cs_ok e2 h3⟩
   ·cases h
theorem yH {x:C} {y:Kv} {v:Value} (h:kI x=some y) (hv:Ab w (gx G) x v):KV G y v:=by
 cases x<;>simp only [kI]at h<;>first
  | (injection h with h;subst h;simpa only [KV,KC,Ab] using hv)
  | cases h
end
def koI (op:BinOp) (b:Int):Bool:=match op with
 | .quo => !(b==0)
 | .rem => !(b==0)
 | .shl =>decide (0<=b)
 | .shr =>decide (0<=b)
 | _=>true
def koS (op:BinOp) (a b:List UInt8):Bool:=match op with
 | .add =>Nat.ble (a.length+b.length) maxLen
 | .eql =>true
 | .neq =>true
 | .lss =>true
 | .leq =>true
 | .gtr =>true
 | .geq =>true
 | _=>false
def Vr (op:BinOp) (b:Bool):Option Kv:=match op with
 | .eql =>some (.c (.b b))
 | .neq =>some (.c (.b !b))
 | _=>none
def Aaw (P:Program) (op:BinOp) (t:TypeId):Kv->Kv->Option Kv
 | .c (.i k a), .c (.i k' b)=>match kEq op k k'&&koI op b with
   | true=>kI (Fp op k a b).2
   | false=>none
 | .c (.b a), .c (.b b)=>match Py P t with
   | true=>Vr op (a==b)
   | false=>none
 | .c (.s a), .c (.s b)=>match koS op a b with
   | true=>kI (FX op a b).2
   | false=>none
 | .c (.p _ _), .c (.z (.pointer none))=>match GK P t with
   | true=>Vr op false
   | false=>none
 | .c (.z (.pointer none)), .c (.z (.pointer none))=>match GK P t with
   | true=>Vr op true
   | false=>none
 | .c (.l ..), .c (.z (.slice none 0 0))=>match Cl P t with
   | true=>Vr op false
   | false=>none
 | .c (.z (.slice none 0 0)), .c (.z (.slice none 0 0))=>match Cl P t with
   | true=>Vr op true
   | false=>none
 | .a cs, .a ds=>match Kc.cs cs,Kc.cs ds with
   | some xs,some ys=>match cM P t xs ys with
     | true=>Vr op (Bo xs ys)
     | false=>none
   | _,_=>none
 | _,_=>none
theorem Hr {P:Program} {G:Kg} {op:BinOp} {t:TypeId} {u v:Value} {b:Bool} {y:Kv} {ox oy:Operand} (h:Vr op b=some y) (afq:(∀ k a,u ≠ .int k a)/\(∀ k a,u ≠ .float k a)/\(∀ k a c,u ≠ .complex k a c)/\(∀ a,u ≠ .string a))
 (hg: ∀ w',(eqGuard op t ox oy u v).run P w'= .ok () w') (he: ∀ w',(Op.equal t u v).run P w'= .ok b w'):
 ∃ r,KV G y r/\ ∀ w',(do eqGuard op t ox oy u v;binOp op t u v).run P w'= .ok r w':=by
 have key: ∀ w0:World,(IM op b True).1/\ ∃ b',(IM op b True).2= .c (.bool b')/\y= .c (.b b'):=fun w0=>by
  cases op<;>simp only [Vr]at h<;>first
   | (injection h with h;exact⟨trivial,_,rfl,h.symm⟩)
   | cases h
 obtain⟨k1,b',k2,rfl⟩:=key default;obtain⟨r,q1,q2⟩:=D6 (P:=P) (op:=op) (t:=t) (u:=u) (v:=v) (b:=b) (s:=True) (w:=default) (G:=gx G) (ox:=ox) (oy:=oy) k1 afq (fun _=>hg) (fun _=>he);rw [k2]at q1;exact⟨r,by simpa only [KV,KC,Aa,Ab] using q1,q2⟩
theorem sH {op:BinOp} {k:IntKind} {a b:Int} (h:koI op b=true):(Fp op k a b).1:=by cases op<;>simp_all [koI,Fp]
theorem sJ {op:BinOp} {a b:List UInt8} (h:koS op a b=true):(FX op a b).1:=by cases op<;>simp_all [koS,FX]
theorem wQ {P:Program} {G:Kg} {op:BinOp} {t:TypeId} {x y r:Kv} {u v:Value} {ox oy:Operand} (hx:KV G x u) (hy:KV G y v) (h:Aaw P op t x y=some r):
 ∃ z,KV G r z/\ ∀ w',(do eqGuard op t ox oy u v;binOp op t u v).run P w'= .ok z w':=by
 unfold Aaw at h;split at h
 ·rename_i k a k' b;split at h
  ·rename_i hb;simp only [and_eq_true]at hb;simp only [KV,KC]at hx hy;subst hx hy;have q:=fun w'=>Pz (P:=P) (op:=op) (t:=t) (ox:=ox) (oy:=oy) (x:=a) (TU hb.1) (sH hb.2) w';exact⟨_,yH (w:=default) h ((AD (q default).2).2 rfl),fun w'=>(q w').1⟩
  ·cases h
 ·split at h
  ·rename_i hb;simp only [KV,KC]at hx hy;subst hx hy;unfold Vr at h;split at h
   ·injection h with h;subst h;exact⟨_,rfl,(by grind [eqGuard,run_eql_bool,HM,Fq])⟩
   ·injection h with h;subst h;exact⟨.bool (_ != _),rfl,(by grind [eqGuard,run_neq_bool,HM,Fq])⟩
   ·cases h
  ·cases h
 ·split at h
  ·rename_i hb;simp only [KV,KC]at hx hy;subst hx hy;have q:=fun w'=>PA (P:=P) (op:=op) (t:=t) (ox:=ox) (oy:=oy) (sJ hb) w';exact⟨_,yH (w:=default) h ((AD (q default).2).2 rfl),fun w'=>(q w').1⟩
  ·cases h
 ·split at h
  ·rename_i hb;simp only [KV,KC]at hx hy;obtain⟨b,_,rfl⟩:=hx;obtain⟨rfl,_⟩:=hy;obtain⟨e,he⟩:=GM hb;exact Hr h (by simp) (fun w'=>by simp [eqGuard]) (fun w'=>Jp he w')
  ·cases h
 ·split at h
  ·rename_i hb;simp only [KV,KC]at hx hy;obtain⟨rfl,_⟩:=hx;obtain⟨rfl,_⟩:=hy;obtain⟨e,he⟩:=GM hb;exact Hr h (by simp) (fun w'=>by simp [eqGuard]) (fun w'=>NT he w')
  ·cases h
 ·split at h
  ·rename_i hb;simp only [KV,KC]at hx hy;obtain⟨b,cap,o,_,_,_,_,_,rfl⟩:=hx;obtain⟨rfl,_⟩:=hy;obtain⟨e,he⟩:=BF hb;refine Hr h (by simp) (fun w'=>by simp [eqGuard]) (fun w'=>?_);simpa using run_equal_slice_nil (P:=P) w' t e (some ⟨b,o,none⟩) _ _ he
  ·cases h
 ·split at h
  ·rename_i hb;simp only [KV,KC]at hx hy;obtain⟨rfl,_⟩:=hx;obtain⟨rfl,_⟩:=hy;obtain⟨e,he⟩:=BF hb;refine Hr h (by simp) (fun w'=>by simp [eqGuard]) (fun w'=>?_);simpa using run_equal_slice_nil (P:=P) w' t e none _ _ he
  ·cases h
 ·split at h
  ·rename_i xs ys e1 e2;split at h
   ·rename_i hb;obtain⟨ax,rfl,hx⟩:=hx;obtain⟨ay,rfl,hy⟩:=hy;have rx:Aa default (gx G) (.agg xs) (.agg ax):=⟨ax,rfl,Kc.cs_ok e1 hx⟩;have ry:Aa default (gx G) (.agg ys) (.agg ay):=⟨ay,rfl,Kc.cs_ok e2 hy⟩;unfold Vr at h;split at h
    ·injection h with h;subst h;obtain⟨z,q1,q2⟩:=M7 (P:=P) (op:= .eql) (t:=t) (ox:=ox) (oy:=oy) rx ry hb;exact⟨z,by simpa only [KV,KC,Aa,Ab,WQ] using q1,q2⟩
    ·injection h with h;subst h;obtain⟨z,q1,q2⟩:=M7 (P:=P) (op:= .neq) (t:=t) (ox:=ox) (oy:=oy) rx ry hb;exact⟨z,by simpa only [KV,KC,Aa,Ab,WQ] using q1,q2⟩
    ·cases h
   ·cases h
  ·cases h
 ·cases h
end
end Go.PL
namespace Go.PL
open Go Go.RowKit
noncomputable section
def OD (ag:Bool) (off n:Nat) (cs:List Kc):Option Kv:=match ag with
 | true=>match ktk n (wM off cs)with
   | some l=>some (.a l)
   | none=>none
 | false=>match wM off cs with
   | c::_=>match n with
     | 0=>none
     | _+1=>some (.c c)
   | []=>none
section
variable {P:Program} {G:Kg}
theorem RJ {ag:Bool} {off n:Nat} {cs:List Kc} {r:Kv} (h:OD ag off n cs=some r):(ag=true/\(off+n<=cs.length\/n=0)/\r= .a ((cs.drop off).take n))\/(ag=false/\0<n/\ ∃ c,cs[off]? =some c/\r= .c c):=by
 unfold OD at h;split at h
 ·split at h
  ·rename_i l hl;injection h with h;obtain⟨k1,k2⟩:=jB hl;rw [SR]at k1 k2;simp at k2;exact .inl ⟨rfl,by omega,by rw [<-h,k1]⟩
  ·cases h
 ·split at h
  ·rename_i c r' hd;split at h
   ·cases h
   ·injection h with h;rw [SR]at hd;refine .inr ⟨rfl,by omega,c,?_,h.symm⟩;have:=congrArg (fun l=>l[0]?) hd;simpa using this
  ·cases h
theorem run_isAgg' {t:TypeId} {ag:Bool} {n:Nat} (ht:FW P t=some (ag,n)) (w:World):(isAgg t).run P w= .ok ag w:=by obtain⟨d,i,hu,hd,hi,Tr⟩:=Bw ht;unfold isAgg;rw [Sem.run_bind,run_underlying hu w];cases d<;>simp_all
theorem eZ {t:TypeId} {ag:Bool} {n off:Nat} {cs:List Kc} {arr:Array Value} {r:Kv} (ht:FW P t=some (ag,n)) (h:KL G cs arr.toList) (hp:OD ag off n cs=some r):
 ∃ v,KV G r v/\ ∀ w',(part t arr off).run P w'= .ok v w':=by
 obtain⟨d,i,hu,hd,hi,Tr⟩:=Bw ht;have amd:=run_isAgg' ht;rcases RJ hp with ⟨rfl,_,rfl⟩ | ⟨rfl,h1,c,h2,rfl⟩
 ·refine⟨.agg (arr.extract off (off+n)),⟨_,rfl,?_⟩,fun w'=>?_⟩
  ·have:=(h.drop off).take n;simpa using this
  ·simp_all [part,sizeOf,typeInfo]
 ·obtain⟨v,hv,hr⟩:=h.get h2;refine⟨v,hr,fun w'=>?_⟩;simp_all [part]
def OF (place:Nat->Option (Nat×Nat)) (cells:List Kc):List (Nat×Kv)->Option (List Kc)
 | []=>some cells
 | (i,v)::rest=>match place i,v.cells with
   | some (off,size),some cs=>match Nat.beq cs.length size with
     | true=>match o6 off cs cells with
       | some r=>OF place r rest
       | none=>none
     | false=>none
   | _,_=>none
def KP (G:Kg):List (Nat×Kv)->List (Nat×Value)->Prop
 | [],vs=>vs=[]
 | (i,x)::xs,vs=> ∃ v r,vs=(i,v)::r/\KV G x v/\KP G xs r
theorem Vs {place:Nat->Option (Nat×Nat)}: ∀ {ps:List (Nat×Kv)} {qs:List (Nat×Value)} {cells out:List Kc} {arr:Array Value},
 OF place cells ps=some out->KP G ps qs->KL G cells arr.toList-> ∃ Q_,Instr.fill place arr qs=some Q_/\KL G out Q_.toList
 | [],_,cells,out,arr,h,hp,hr=>by simp only [OF,injEq]at h;subst h;simp only [KP]at hp;subst hp;exact⟨arr,rfl,hr⟩
 | (i,x)::ps,_,cells,out,arr,h,⟨v,qs,e,hv,hp⟩,hr=>by
   subst e;simp only [OF]at h;split at h
   ·rename_i off size cs hpl hcs;split at h
    ·rename_i hb;have hb1:=eq_of_beq_eq_true hb;split at h
     rotate_left
     ·cases h
     rename_i r hr0;obtain⟨e0,hb2⟩:=Mh hr0;rw [hb1]at e0 hb2;subst e0;have hvc:=hv.cells hcs;have hl:=hr.len;have hlv:=hvc.len;have e:=PH v.cells.toList off 0 arr (by simp at hl hlv ⊢;omega);simp only [Instr.fill,hpl];rw [if_neg (by simp at hl hlv ⊢;omega)];refine Vs h hp ?_;rw [<-Array.foldl_toList,Array.toList_zipIdx,e];simp only [add_zero];have:v.cells.toList.length=size:=by omega
     rw [this];exact((hr.take off).append hvc).append (hr.drop (off+size))
    ·cases h
   ·cases h
def Vt (P:Program) (t:TypeId):Option (List Kc):=match P.info? t with
 | some i=>match i.zero with
   | some z=>match z.cells.toList.all sD with
     | true=>some (z.cells.toList.map kc1)
     | false=>none
   | none=>none
 | none=>none
theorem Lo {t:TypeId} {cs:List Kc} (h:Vt P t=some cs): ∃ i z,P.info? t=some i/\i.zero=some z/\KL G cs z.cells.toList:=by
 unfold Vt at h;split at h
 ·rename_i i hi;split at h
  ·rename_i z hz;split at h
   ·rename_i hk;injection h with h;subst h;exact⟨i,z,hi,hz,aO hk⟩
   ·cases h
  ·cases h
 ·cases h
def sK (tm:Kt Kv) (ps:List (Nat×Operand)):List (Nat×Kv):=ps.map fun p=>(p.1,Fa tm p.2)
theorem Vu {n:Nat} {tm:Kt Kv} {a:Act} (h:SK n tm a G): ∀ ps:List (Nat×Operand),KP G (sK tm ps) (ps.map fun p=>(p.1,a.eval p.2))
 | []=>rfl
 | p::ps=>⟨_,_,rfl,h.ev p.2,Vu h ps⟩
def jC (P:Program) (tm:Kt Kv) (t:TypeId) (ps:List (Nat×Operand)):Option Kv:=match Vt P t,cF P t with
 | some z,true=>match OF (p9 P t) z (sK tm ps)with
   | some cs=>some (.a cs)
   | none=>none
 | _,_=>none
theorem o7 {n:Nat} {tm:Kt Kv} {a:Act} (h:SK n tm a G) {t:TypeId} {ps:Array (Nat×Operand)} {r:Kv} (hs:jC P tm t ps.toList=some r):
 ∃ v,KV G r v/\ ∀ w',(Instr.build t (ps.map fun(i,x)=>(i,a.eval x))).run P w'= .ok v w':=by
 unfold jC at hs;split at hs
 ·rename_i z hz hok;split at hs
  ·rename_i cs hf;injection hs with hs;subst hs;obtain⟨i,zv,hi,hzv,hc⟩:=Lo (G:=G) hz;obtain⟨Q_,q1,q2⟩:=Vs hf (Vu h ps.toList) hc;refine⟨.agg Q_,⟨Q_,rfl,q2⟩,fun w'=>run_build w' t _ Q_ ?_⟩;unfold cF at hok;unfold Program.built;rw [hi];split at hok
   ·rename_i m e hu;cases hie:P.info? e with
    | none=>grind
    | some ie=>
      simp only [hu,hzv,hie];have e1:p9 P t=fun i=>some (i*ie.size,ie.size):=by grind [p9]
      simp_all
   ·rename_i fs hu;cases hm:fs.toList.mapM (fun f=>(P.info? f.type).map fun i=>(f.offset,i.size))with
    | none=>grind
    | some pl=>
      simp only [hu,hzv,hm];have e1:p9 P t=fun i=>pl[i]? :=by grind [p9]
      simp_all
   ·cases hok
  ·cases hs
 ·cases hs
def jD (dl dh:Nat) (lo hi:Option Kv):Option (Int×Int):=match lo,hi with
 | none,none=>some (0,dh)
 | some (.c (.i _ l)),none=>some (l,dh)
 | none,some (.c (.i _ h))=>some (0,h)
 | some (.c (.i _ l)),some (.c (.i _ h))=>some (l,h)
 | _,_=>none
def KO (G:Kg):Option Kv->Option Value->Prop
 | none,none=>True
 | some x,some v=>KV G x v
 | _,_=>False
theorem sL {len cap room:Nat} {lo hi:Option Kv} {lv hv:Option Value} {l h:Int} (sl:Bool) (hb:jD 0 len lo hi=some (l,h)) (h1:KO G lo lv) (h2:KO G hi hv)
 (q1:0<=l) (q2:l<=h) (q3:h<=room) (q4:room<=cap): ∀ w',(Instr.sliceBounds sl len cap lv hv none).run P w'= .ok (l.toNat,h.toNat,cap) w':=by
 intro w';unfold jD at hb;split at hb
 ·simp only [injEq,Prod.mk.injEq]at hb;obtain⟨rfl,rfl⟩:=hb;cases lv<;>cases hv<;>simp only [KO]at h1 h2;simp [Instr.sliceBounds]
 ·rename_i k1 l1;simp only [injEq,Prod.mk.injEq]at hb;obtain⟨rfl,rfl⟩:=hb;cases lv<;>cases hv<;>simp only [KO,KV,KC]at h1 h2;simp_all [f_,Instr.sliceBounds]
 ·rename_i k2 l2;simp only [injEq,Prod.mk.injEq]at hb;obtain⟨rfl,rfl⟩:=hb;cases lv<;>cases hv<;>simp only [KO,KV,KC]at h1 h2;subst h2;have e2:=fun code=>f_ (P:=P) w' k2 l2 cap code (by omega) (by omega);simp [Instr.sliceBounds,e2]
 ·rename_i k1 l1 k2 l2;simp only [injEq,Prod.mk.injEq]at hb;obtain⟨rfl,rfl⟩:=hb;cases lv<;>cases hv<;>simp only [KO,KV,KC]at h1 h2;subst h1 h2;have e1:=fun code=>f_ (P:=P) w' k1 l1 l2.toNat code q1 (by omega);have e2:=fun code=>f_ (P:=P) w' k2 l2 cap code (by omega) (by omega);simp_all [Instr.sliceBounds]
 ·cases hb
end
end
end Go.PL
namespace Go.PL
open Go Go.RowKit
noncomputable section
section
variable {P:Program} {G:Kg}
theorem sM {len cap room:Nat} {lo hi mx:Option Kv} {lv hv mv:Option Value} {l h m:Int} {k:IntKind} (sl:Bool) (hb:jD 0 len lo hi=some (l,h)) (hm:mx=some (.c (.i k m))) (h1:KO G lo lv) (h2:KO G hi hv) (h3:KO G mx mv) (aiu:hi.isSome=true)
 (q1:0<=l) (q2:l<=h) (q3:h<=m) (q4:m<=room) (q5:room<=cap): ∀ w',(Instr.sliceBounds sl len cap lv hv mv).run P w'= .ok (l.toNat,h.toNat,m.toNat) w':=by
 intro w';subst hm;cases mv<;>simp only [KO,KV,KC]at h3
 subst h3;have e3:=fun code=>f_ (P:=P) w' k m cap code (by omega) (by omega);unfold jD at hb;split at hb
 ·cases aiu
 ·cases aiu
 ·rename_i k2 l2;simp only [injEq,Prod.mk.injEq]at hb;obtain⟨rfl,rfl⟩:=hb;cases lv<;>cases hv<;>simp only [KO,KV,KC]at h1 h2;subst h2;have e2:=fun code=>f_ (P:=P) w' k2 l2 m.toNat code (by omega) (by omega);simp [Instr.sliceBounds,e2,e3]
 ·rename_i k1 l1 k2 l2;simp only [injEq,Prod.mk.injEq]at hb;obtain⟨rfl,rfl⟩:=hb;cases lv<;>cases hv<;>simp only [KO,KV,KC]at h1 h2;subst h1 h2;have e1:=fun code=>f_ (P:=P) w' k1 l1 l2.toNat code q1 (by omega);have e2:=fun code=>f_ (P:=P) w' k2 l2 m.toNat code (by omega) (by omega);simp_all [Instr.sliceBounds]
 ·cases hb
def jE (P:Program) (t:TypeId) (x:Kv) (lo hi mx:Option Kv):Option Kv:=match x with
 | .c (.s s)=>match mx,jD 0 s.length lo hi,Cb P t with
   | none,some (l,h),true=>match decide (0<=l)&&(decide (l<=h)&&decide (h<=s.length))with
     | true=>some (.c (.s ((s.drop l.toNat).take (h.toNat - l.toNat))))
     | false=>none
   | _,_,_=>none
 | .c (.l id N off len rm)=>match Ck P t,jD 0 len lo hi with
   | some (_,n),some (l,h)=>match mx with
     | none=>match Nat.beq n N&&(decide (0<=l)&&(decide (l<=h)&&decide (h<=rm)))with
       | true=>some (.c (.l id N (off+l.toNat) (h.toNat - l.toNat) (rm - l.toNat)))
       | false=>none
     | some (.c (.i _ m))=>match hi.isSome&&(decide (0<=l)&&(decide (l<=h)&&(decide (h<=m)&&decide (m<=rm))))with
       | true=>match Nat.beq l.toNat m.toNat with
         | true=>some (.c .e)
         | false=>some (.c .u)
       | false=>none
     | _=>none
   | _,_=>none
 | .c (.z (.slice none 0 0))=>match Ck P t,jD 0 0 lo hi,mx with
   | some _,some (l,h),none=>match decide (l=0)&&decide (h=0)with
     | true=>some (.c (.z (.slice none 0 0)))
     | false=>none
   | some _,some (l,h),some (.c (.i _ m))=>match hi.isSome&&(decide (l=0)&&(decide (h=0)&&decide (m=0)))with
     | true=>some (.c (.z (.slice none 0 0)))
     | false=>none
   | _,_,_=>none
 | _=>none
theorem o8 {t:TypeId} {x r:Kv} {lo hi mx:Option Kv} {u:Value} {lv hv mv:Option Value} (hx:KV G x u) (h1:KO G lo lv) (h2:KO G hi hv) (h3:KO G mx mv) (hs:jE P t x lo hi mx=some r):
 ∃ z,KV G r z/\ ∀ w',(Instr.sliceAt t u lv hv mv).run P w'= .ok z w':=by
 unfold jE at hs;split at hs
 ·rename_i s;split at hs
  ·rename_i l h hb ht;split at hs
   ·rename_i hq;injection hs with hs;subst hs;simp only [and_eq_true,decide_eq_true_eq]at hq;obtain⟨q1,q2,q3⟩:=hq;cases mv<;>simp only [KO]at h3;simp only [KV,KC]at hx;subst hx;refine⟨_,rfl,fun w'=>?_⟩;have e:(⟨s.toArray⟩:ByteArray).extract l.toNat h.toNat=⟨((s.drop l.toNat).take (h.toNat - l.toNat)).toArray⟩:=by apply ByteArray.ext;simp_all
    have:=sL (P:=P) (G:=G) false (len:=s.length) (cap:=s.length) hb h1 h2 q1 q2 q3 (le_refl _) w';simp_all [Instr.sliceAt,Instr.slice,run_underlying,B5,SZ]
   ·cases hs
  ·cases hs
 ·rename_i id N off len rm;split at hs
  ·rename_i e n l h hse hb;obtain⟨hu,inf,M_,Tr⟩:=B4 hse;simp only [KV,KC]at hx;obtain⟨b,cap,o,g1,g2,g3,g4,g5,rfl⟩:=hx;split at hs
   ·split at hs
    ·rename_i hq;injection hs with hs;subst hs;simp only [and_eq_true,decide_eq_true_eq]at hq;obtain⟨q0,q1,q2,q3⟩:=hq;have q0:=eq_of_beq_eq_true q0;subst q0;cases mv<;>simp only [KO]at h3;have hr:=fun w'=>sL (P:=P) (G:=G) true (len:=len) (cap:=cap - off) hb h1 h2 q1 q2 q3 (by omega) w';refine⟨.slice (if cap - off=l.toNat then some ⟨b,o,none⟩else(some ⟨b,o,none⟩:Option Addr).map (·.add (l.toNat*n))) (h.toNat - l.toNat) (cap - off - l.toNat),?_,fun w'=>?_⟩
     ·simp only [KV,KC];refine⟨b,cap,if cap - off=l.toNat then o else o+l.toNat*n,g1,g2,by omega,by omega,fun hh=>?_,?_⟩
      ·by_cases hc:cap - off=l.toNat
       ·rw [if_pos hc];rcases hh with hh | hh
        ·omega
        ·rw [g5 (by omega)];have:l.toNat=0:=by omega
         rw [this];simp
       ·rw [if_neg hc,g5 (by omega),add_mul]
      ·rw [Nat.sub_add_eq];split<;>simp [Addr.add_mid]
     ·simp_all [Instr.sliceAt,Instr.slice,run_underlying,sizeOf,typeInfo]
    ·cases hs
   ·rename_i k m;split at hs
    ·rename_i hq;simp only [and_eq_true,decide_eq_true_eq]at hq;obtain⟨q0,q1,q2,q3,q4⟩:=hq;have hr:=fun w'=>sM (P:=P) (G:=G) true (len:=len) (cap:=cap - off) hb rfl h1 h2 h3 q0 q1 q2 q3 q4 (by omega) w';have h_: ∀ w',(Instr.sliceAt t (.slice (some ⟨b,o,none⟩) len (cap - off)) lv hv mv).run P w'= .ok (.slice (if m.toNat=l.toNat then some ⟨b,o,none⟩else(some ⟨b,o,none⟩:Option Addr).map (·.add (l.toNat*n))) (h.toNat - l.toNat) (m.toNat - l.toNat)) w':=fun w'=>by simp_all [Instr.sliceAt,Instr.slice,run_underlying,sizeOf,typeInfo]
     split at hs
     ·rename_i hlm;injection hs with hs;subst hs;have hlm:=eq_of_beq_eq_true hlm;refine⟨_,?_,h_⟩;simp only [KV,KC];rw [show h.toNat - l.toNat=0 by omega,show m.toNat - l.toNat=0 by omega];exact⟨_,rfl⟩
     ·injection hs with hs;subst hs;exact⟨_,by simp [KV,KC,Value.oneCell'],h_⟩
    ·cases hs
   ·cases hs
  ·cases hs
 ·simp only [KV,KC]at hx;obtain⟨rfl,_⟩:=hx;split at hs
  ·rename_i e l h hse hb;obtain⟨hu,inf,M_,Tr⟩:=B4 (e:=e.1) (n:=e.2) hse;split at hs
   ·rename_i hq;injection hs with hs;subst hs;simp only [and_eq_true,decide_eq_true_eq]at hq;obtain⟨rfl,rfl⟩:=hq;cases mv<;>simp only [KO]at h3;have hr:=fun w'=>sL (P:=P) (G:=G) true (len:=0) (cap:=0) hb h1 h2 (by omega) (by omega) (room:=0) (by omega) (by omega) w';exact⟨.slice none 0 0,⟨rfl,rfl⟩,fun w'=>by simp_all [Instr.sliceAt,Instr.slice,run_underlying,sizeOf,typeInfo]⟩
   ·cases hs
  ·rename_i e l h k m hse hb;obtain⟨hu,inf,M_,Tr⟩:=B4 (e:=e.1) (n:=e.2) hse;split at hs
   ·rename_i hq;injection hs with hs;subst hs;simp only [and_eq_true,decide_eq_true_eq]at hq;obtain⟨q0,rfl,rfl,rfl⟩:=hq;have hr:=fun w'=>sM (P:=P) (G:=G) true (len:=0) (cap:=0) hb rfl h1 h2 h3 q0 (by omega) (by omega) (by omega) (room:=0) (by omega) (by omega) w';exact⟨.slice none 0 0,⟨rfl,rfl⟩,fun w'=>by simp_all [Instr.sliceAt,Instr.slice,run_underlying,sizeOf,typeInfo]⟩
   ·cases hs
  ·cases hs
 ·cases hs
end
end
end Go.PL
namespace Go.PL
open Go Go.RowKit
noncomputable section
section
variable {P:Program} {G:Kg}
def kun (op:UnOp):Kv->Option Kv
 | .c (.i k n)=>match op with
   | .neg =>some (.c (.i k (k.wrap (0 - n))))
   | .xor =>some (.c (.i k (Zq k (if k.signed then -1 else k.max) n)))
   | _=>none
 | .c (.b x)=>match op with
   | .not =>some (.c (.b !x))
   | _=>none
 | _=>none
theorem Aax {op:UnOp} {x r:Kv} {u:Value} (hx:KV G x u) (h:kun op x=some r): ∃ v,KV G r v/\ ∀ w',(Op.unary op u).run P w'= .ok v w':=by
 unfold kun at h;split at h
 ·simp only [KV,KC]at hx;subst hx;split at h
  ·injection h with h;subst h;exact⟨_,rfl,(by simp_all [Op.unary,Op.intArith])⟩
  ·injection h with h;subst h;exact⟨_,rfl,(by simp_all [Op.unary,Op.intBits,Zq])⟩
  ·cases h
 ·simp only [KV,KC]at hx;subst hx;split at h
  ·injection h with h;subst h;exact⟨_,rfl,(by simp [Op.unary])⟩
  ·cases h
 ·cases h
def sN (P:Program) (src dst:TypeId):Kv->Option Kv
 | .c (.i _ n)=>match XB P dst,nr P src with
   | some k,true=>some (.c (.i k (k.wrap n)))
   | _,_=>none
 | .c (.s s)=>match Cb P src&&Cb P dst with
   | true=>some (.c (.s s))
   | false=>none
 | _=>none
theorem sO {src dst:TypeId} {x r:Kv} {u:Value} (hx:KV G x u) (h:sN P src dst x=some r): ∃ v,KV G r v/\ ∀ w',(convert src dst u).run P w'= .ok v w':=by
 unfold sN at h;split at h
 ·simp only [KV,KC]at hx;subst hx;split at h
  ·rename_i k hk hs;injection h with h;subst h;unfold nr at hs;cases hu:P.underlying src with
   | none=>grind
   | some d=>exact⟨_,rfl,(by simp_all [convert,run_underlying,S1,Conv.intToInt])⟩
  ·cases h
 ·simp only [KV,KC]at hx;subst hx;split at h
  ·rename_i hq;injection h with h;subst h;simp only [and_eq_true]at hq;exact⟨_,rfl,(by simp_all [convert,run_underlying,B5])⟩
  ·cases h
 ·cases h
def sP (P:Program) (s:TypeId) (f:Nat):Kv->Option Kv
 | .c (.p id off)=>match nm P s f with
   | some (o,_,n)=>match Nat.blt 0 n with
     | true=>some (.c (.p id (off+o)))
     | false=>none
   | none=>none
 | _=>none
def Aay (P:Program) (t:TypeId) (f:Nat):Kv->Option Kv
 | .a cs=>match nm P t f with
   | some (o,ag,n)=>OD ag o n cs
   | none=>none
 | _=>none
def sQ (P:Program) (t:TypeId) (x y:Kv):Option Kv:=match y with
 | .c (.i _ i)=>match x with
   | .c (.l id N off len _)=>match Ck P t with
     | some (_,n)=>match Nat.beq n N&&(decide (0<=i)&&decide (i<len))with
       | true=>some (.c (.p id ((off+i.toNat)*N)))
       | false=>none
     | none=>none
   | .c (.p id off)=>match C6 P t with
     | some (k,_,n)=>match decide (0<=i)&&decide (i<k)with
       | true=>some (.c (.p id (off+i.toNat*n)))
       | false=>none
     | none=>none
   | .c (.g g off)=>match C6 P t with
     | some (k,_,n)=>match decide (0<=i)&&decide (i<k)with
       | true=>some (.c (.g g (off+i.toNat*n)))
       | false=>none
     | none=>none
   | _=>none
 | _=>none
def Aaz (P:Program) (t:TypeId) (x y:Kv):Option Kv:=match y with
 | .c (.i _ i)=>match x with
   | .c (.s s)=>match Cb P t&&(decide (0<=i)&&decide (i<s.length))with
     | true=>some (.c (.i .u8 (s.getD i.toNat 0).toNat))
     | false=>none
   | .a cs=>match C6 P t with
     | some (k,e,n)=>match FW P e with
       | some (ag,_)=>match decide (0<=i)&&(decide (i<k)&&Nat.blt 0 n)with
         | true=>OD ag (i.toNat*n) n cs
         | false=>none
       | none=>none
     | none=>none
   | _=>none
 | _=>none
theorem sR {s:TypeId} {f:Nat} {x r:Kv} {u:Value} (hx:KV G x u) (h:sP P s f x=some r): ∃ v,KV G r v/\ ∀ w',(Instr.fieldAt s u f).run P w'= .ok v w':=by
 unfold sP at h;split at h
 ·simp only [KV,KC]at hx;obtain⟨b,hb,rfl⟩:=hx;split at h
  ·rename_i o ag n hf;split at h
   ·rename_i hn;injection h with h;subst h;exact⟨_,⟨b,hb,rfl⟩,fun w'=>abr hf (by simpa using hn) b _ w'⟩
   ·cases h
  ·cases h
 ·cases h
theorem wR {t:TypeId} {f:Nat} {x r:Kv} {u:Value} (hx:KV G x u) (h:Aay P t f x=some r): ∃ v,KV G r v/\ ∀ w',(Instr.field t u f).run P w'= .ok v w':=by
 unfold Aay at h;split at h
 ·obtain⟨arr,rfl,hr⟩:=hx;split at h
  ·rename_i o ag n hf;obtain⟨fs,y,h1,h2,h3,h4⟩:=S3 hf;obtain⟨v,q1,q2⟩:=eZ h4 hr h;exact⟨v,q1,by simp_all [Instr.field,run_underlying,asAgg]⟩
  ·cases h
 ·cases h
theorem sS {t:TypeId} {x y r:Kv} {u v:Value} (hx:KV G x u) (hy:KV G y v) (h:sQ P t x y=some r): ∃ z,KV G r z/\ ∀ w',(Instr.indexAt t u v).run P w'= .ok z w':=by
 unfold sQ at h;split at h
 ·simp only [KV,KC]at hy;subst hy;split at h
  ·simp only [KV,KC]at hx;obtain⟨b,cap,o,g1,g2,g3,g4,g5,rfl⟩:=hx;split at h
   ·rename_i e n hse;split at h
    ·rename_i hq;injection h with h;subst h;simp only [and_eq_true,decide_eq_true_eq]at hq;obtain⟨q0,q1,q2⟩:=hq;have q0:=eq_of_beq_eq_true q0;subst q0;refine⟨_,⟨b,g1,rfl⟩,fun w'=>?_⟩;rw [CD hse b o _ _ _ _ q1 q2 w',g5 (by omega),add_mul]
    ·cases h
   ·cases h
  ·simp only [KV,KC]at hx;obtain⟨b,g1,rfl⟩:=hx;split at h
   ·rename_i e n hae;split at h
    ·rename_i hq;injection h with h;subst h;simp only [and_eq_true,decide_eq_true_eq]at hq;exact⟨_,⟨b,g1,rfl⟩,fun w'=>C7 hae b _ _ _ hq.1 hq.2 w'⟩
    ·cases h
   ·cases h
  ·simp only [KV,KC]at hx;subst hx;split at h
   ·rename_i e n hae;split at h
    ·rename_i hq;injection h with h;subst h;simp only [and_eq_true,decide_eq_true_eq]at hq;exact⟨_,rfl,fun w'=>C7 hae _ _ _ _ hq.1 hq.2 w'⟩
    ·cases h
   ·cases h
  ·cases h
 ·cases h
theorem wS {t:TypeId} {x y r:Kv} {u v:Value} (hx:KV G x u) (hy:KV G y v) (h:Aaz P t x y=some r): ∃ z,KV G r z/\ ∀ w',(Instr.index t u v).run P w'= .ok z w':=by
 unfold Aaz at h;split at h
 ·rename_i k i;simp only [KV,KC]at hy;subst hy;split at h
  ·rename_i s;simp only [KV,KC]at hx;subst hx;split at h
   ·rename_i hq;injection h with h;subst h;simp only [and_eq_true,decide_eq_true_eq]at hq;obtain⟨h1,h2,h3⟩:=hq;refine⟨_,rfl,fun w'=>?_⟩;have Tw:i.toNat<s.length:=by omega
    have hg:(⟨s.toArray⟩:ByteArray)[i.toNat]? =some s[i.toNat]:=by rw [getElem?_pos _ _ (by simpa [ByteArray.size] using Tw)];rfl
    simp_all [Instr.index,asIntOf,run_underlying,B5]
   ·cases h
  ·split at h
   ·rename_i m e n hae;split at h
    ·rename_i ag n' hts;split at h
     ·rename_i hq;simp only [and_eq_true,decide_eq_true_eq,blt_eq]at hq;obtain⟨hu,inf,hi,Tr⟩:=EL hae;obtain⟨d,anS,hu',hd,M_,an4⟩:=Bw hts;rw [hi]at M_;injection M_ with M_;subst M_;have hnn:n'=n:=by omega
      subst hnn;obtain⟨arr,rfl,hr⟩:=hx;obtain⟨z,q1,q2⟩:=eZ hts hr h;exact⟨z,q1,by simp_all [Instr.index,asIntOf,run_underlying,sizeOf,typeInfo]⟩
     ·cases h
    ·cases h
   ·cases h
  ·cases h
 ·cases h
def AaA (P:Program) (t:TypeId):Kv->Option Kv
 | .c (.s s)=>match Cb P t with
   | true=>some (.c (.i .i64 s.length))
   | false=>none
 | .c (.l _ _ _ len _)=>match Cl P t with
   | true=>some (.c (.i .i64 len))
   | false=>none
 | .c .e =>match Cl P t with
   | true=>some (.c (.i .i64 0))
   | false=>none
 | .c (.z (.slice none 0 0))=>match Cl P t with
   | true=>some (.c (.i .i64 0))
   | false=>none
 | _=>match C6 P t with
   | some (k,_,_)=>some (.c (.i .i64 k))
   | none=>none
theorem wU {t ty:TypeId} {x r:Kv} {u:Value} (hx:KV G x u) (h:AaA P t x=some r): ∃ v,KV G r v/\ ∀ w',(Builtin.len_ #[t] ty #[u]).run P w'= .ok v w':=by
 unfold AaA at h;split at h
 ·simp only [KV,KC]at hx;subst hx;split at h
  ·injection h with h;subst h;exact⟨_,rfl,(by simp_all [Builtin.len_,run_underlying,B5,goInt,SZ])⟩
  ·cases h
 ·simp only [KV,KC]at hx;obtain⟨b,cap,o,g1,g2,g3,g4,g5,rfl⟩:=hx;split at h
  ·rename_i hs;injection h with h;subst h;obtain⟨e,he⟩:=BF hs;exact⟨_,rfl,(by simp_all [Builtin.len_,run_underlying,goInt])⟩
  ·cases h
 ·simp only [KV,KC]at hx;obtain⟨p,rfl⟩:=hx;split at h
  ·rename_i hs;injection h with h;subst h;obtain⟨e,he⟩:=BF hs;exact⟨_,rfl,(by simp_all [Builtin.len_,run_underlying,goInt])⟩
  ·cases h
 ·simp only [KV,KC]at hx;obtain⟨rfl,_⟩:=hx;split at h
  ·rename_i hs;injection h with h;subst h;obtain⟨e,he⟩:=BF hs;exact⟨_,rfl,(by simp_all [Builtin.len_,run_underlying,goInt])⟩
  ·cases h
 ·split at h
  ·rename_i k e n hae;injection h with h;subst h;obtain⟨hu,_⟩:=EL hae;exact⟨_,rfl,(by simp_all [Builtin.len_,run_underlying,goInt])⟩
  ·cases h
end
end
end Go.PL
namespace Go.PL
open Go Go.RowKit
noncomputable section
section
variable {P:Program} {G:Kg}
def MO:List Kv->Option (List Kc)
 | []=>some []
 | .c x::vs=>match MO vs with
   | some cs=>some (x::cs)
   | none=>none
 | _=>none
theorem Vv: ∀ {vs:List Kv} {cs:List Kc} {us:List Value},MO vs=some cs->Iq G vs us->KL G cs us
 | [],cs,us,h,hv=>by simp only [MO]at h;injection h with h;subst h;simp only [Iq]at hv;subst hv;rfl
 | .c x::vs,cs,us,h,⟨v,r,e,h1,h2⟩=>by
   simp only [MO]at h;split at h
   ·rename_i xs hx;injection h with h;subst h e;exact⟨v,r,rfl,h1,Vv hx h2⟩
   ·cases h
 | .a _::_,_,_,h,_=>by simp [MO]at h
 | .t _::_,_,_,h,_=>by simp [MO]at h
 | .sk ::_,_,_,h,_=>by simp [MO]at h
 | .u ::_,_,_,h,_=>by simp [MO]at h
def Ex:List Kv->Option (List V)
 | []=>some []
 | .c (.i k n)::vs=>match Ex vs with
   | some cs=>some (.c (.int k n)::cs)
   | none=>none
 | _=>none
theorem Vw {w:World} {H:Ax}: ∀ {vs:List Kv} {cs:List V} {us:List Value},Ex vs=some cs->Iq G vs us->Ao w H cs us
 | [],cs,us,h,hv=>by simp only [Ex]at h;injection h with h;subst h;simp only [Iq]at hv;subst hv;simp [Ao]
 | .c (.i k n)::vs,cs,us,h,⟨v,r,e,h1,h2⟩=>by
   simp only [Ex]at h;split at h
   ·rename_i xs hx;injection h with h;subst h e;simp only [Ao];exact⟨v,r,rfl,by simpa only [Aa,Ab,KV,KC] using h1,Vw hx h2⟩
   ·cases h
 | .c (.b _)::_,_,_,h,_=>by simp [Ex]at h
 | .c (.s _)::_,_,_,h,_=>by simp [Ex]at h
 | .c (.z _)::_,_,_,h,_=>by simp [Ex]at h
 | .c (.p ..)::_,_,_,h,_=>by simp [Ex]at h
 | .c (.l ..)::_,_,_,h,_=>by simp [Ex]at h
 | .c .e ::_,_,_,h,_=>by simp [Ex]at h
 | .c (.f ..)::_,_,_,h,_=>by simp [Ex]at h
 | .c (.g ..)::_,_,_,h,_=>by simp [Ex]at h
 | .c (.y ..)::_,_,_,h,_=>by simp [Ex]at h
 | .c .u ::_,_,_,h,_=>by simp [Ex]at h
 | .a _::_,_,_,h,_=>by simp [Ex]at h
 | .t _::_,_,_,h,_=>by simp [Ex]at h
 | .sk ::_,_,_,h,_=>by simp [Ex]at h
 | .u ::_,_,_,h,_=>by simp [Ex]at h
def kmm (mn:Bool) (vs:List Kv):Option Kv:=match Ex vs with
 | some ys=>match GP ys with
   | some (k,x,zs)=>some (.c (.i k (match mn with
     | true=>zs.foldl (fun a y=>if y<a then y else a) x
     | false=>zs.foldl (fun a y=>if a<y then y else a) x)))
   | none=>none
 | none=>none
def knn (P:Program) (op:BinOp) (t:TypeId) (k:Bool):Kv->Kv->Option Kv
 | .c (.z .nilIface), .c (.z .nilIface)=>match k&&F3 P t with
   | true=>Vr op true
   | false=>none
 | _,_=>none
theorem AaB {op:BinOp} {t:TypeId} {x y r:Kv} {u v:Value} {ox oy:Operand} (hx:KV G x u) (hy:KV G y v) (h:knn P op t (AU ox||AU oy) x y=some r):
 ∃ z,KV G r z/\ ∀ w',(do eqGuard op t ox oy u v;binOp op t u v).run P w'= .ok z w':=by
 unfold knn at h;split at h
 ·split at h
  ·rename_i hb;simp only [and_eq_true]at hb;obtain⟨rfl,_⟩:=hx;obtain⟨rfl,_⟩:=hy;refine Hr h (by simp) (fun w'=>?_) (fun w'=>?_)
   ·have hk:=hb.1;cases ox<;>cases oy<;>simp_all [AU,eqGuard]<;>(try (split<;>rfl))
   ·grind [Jo,NS]
  ·cases h
 ·cases h
def AcP:Kv->Option Kv
 | .c (.l id N off _ (_+1))=>some (.c (.p id (off*N)))
 | _=>none
def Vx (P:Program) (tm:Kt Kv) (op:Op):Option Kv:=match op with
 | .move x=>some (Fa tm x)
 | .assign x=>some (Fa tm x)
 | .pick c a b=>match Fa tm c with
   | .c (.b q)=>match q with
     | true=>some (Fa tm a)
     | false=>some (Fa tm b)
   | _=>none
 | .nilCheck x=>match Fa tm x with
   | .c (.p id off)=>some (.c (.p id off))
   | .c (.g g off)=>some (.c (.g g off))
   | .c (.f f x y)=>some (.c (.f f x y))
   | _=>none
 | .binOp op t x y _=>match Aaw P op t (Fa tm x) (Fa tm y)with
   | some r=>some r
   | none=>knn P op t (AU x||AU y) (Fa tm x) (Fa tm y)
 | .unOp op _ x=>kun op (Fa tm x)
 | .convert src dst x=>sN P src dst (Fa tm x)
 | .fieldAddr s x f=>sP P s f (Fa tm x)
 | .field t x f=>Aay P t f (Fa tm x)
 | .indexAddr t x i=>sQ P t (Fa tm x) (Fa tm i)
 | .index t x i=>Aaz P t (Fa tm x) (Fa tm i)
 | .extract x i=>match Fa tm x with
   | .t vs=>vs[i]?
   | _=>none
 | .build t ps=>jC P tm t ps.toList
 | .slice t x lo hi mx=>jE P t (Fa tm x) (lo.map (Fa tm)) (hi.map (Fa tm)) (mx.map (Fa tm))
 | .makeFunc fn fi ca=>match fn with
   | .func f=>match MO (fi.toList.map (Fa tm)),MO (ca.toList.map (Fa tm))with
     | some xs,some ys=>some (.c (.f f xs ys))
     | _,_=>none
   | _=>none
 | .call c=>match c.callee,c.args.toList,c.argTypes.toList with
   | .builtin .len,[x],[t]=>AaA P t (Fa tm x)
   | .builtin .min,xs,_=>kmm true (xs.map (Fa tm))
   | .builtin .max,xs,_=>kmm false (xs.map (Fa tm))
   | .builtin .unsafeSliceData,[x],[_]=>AcP (Fa tm x)
   | _,_,_=>none
 | _=>none
theorem aQ {n:Nat} {tm:Kt Kv} {a:Act} (h:SK n tm a G) (x:Option Operand):KO G (x.map (Fa tm)) (x.map a.eval):=by
 cases x with
 | none=>trivial
 | some x=>exact h.ev x
theorem mG {n:Nat} {tm:Kt Kv} {a:Act} (h:SK n tm a G) {o:Oper} {r:Kv} (hs:Vx P tm o.op=some r):
 ∃ v,KV G r v/\ ∀ w',(execOp a.eval o).run P w'= .ok (.value v) w':=by
 cases ho:o.op<;>simp only [Vx,ho]at hs<;>try (cases hs;done)
 case move x=>injection hs with hs;subst hs;exact⟨_,h.ev x,fun w'=>by simp [execOp,ho]⟩
 case assign x=>injection hs with hs;subst hs;exact⟨_,h.ev x,fun w'=>by simp [execOp,ho]⟩
 case pick c x y=>
  have hc:=h.ev c;split at hs
  ·rename_i q hq;rw [hq]at hc;simp only [KV,KC]at hc;split at hs
   ·injection hs with hs;subst hs;exact⟨_,h.ev x,by simp_all [execOp,asBool]⟩
   ·injection hs with hs;subst hs;exact⟨_,h.ev y,by simp_all [execOp,asBool]⟩
  ·cases hs
 case nilCheck x=>
  have hx:=h.ev x;split at hs
  ·rename_i id off e;rw [e]at hx;injection hs with hs;subst hs;refine⟨_,hx,?_⟩;obtain⟨b,hb,hv⟩:=hx;simp_all [execOp]
  ·rename_i g off e;rw [e]at hx;injection hs with hs;subst hs;refine⟨_,hx,?_⟩;simp only [KV,KC]at hx;simp_all [execOp]
  ·rename_i f fi ca e;rw [e]at hx;injection hs with hs;subst hs;refine⟨_,hx,?_⟩;obtain⟨x',y',hv,_⟩:=hx;simp_all [execOp]
  ·cases hs
 case binOp op t x y t'=>
  obtain⟨v,q1,q2⟩: ∃ z,KV G r z/\ ∀ w',(do eqGuard op t x y (a.eval x) (a.eval y);binOp op t (a.eval x) (a.eval y)).run P w'= .ok z w':=by
   split at hs
   ·rename_i r' hr;injection hs with hs;subst hs;exact wQ (P:=P) (ox:=x) (oy:=y) (h.ev x) (h.ev y) hr
   ·exact AaB (P:=P) (h.ev x) (h.ev y) hs
  refine⟨v,q1,fun w'=>?_⟩;have:=q2 w';simp only [execOp,ho,Sem.run_bind]at this ⊢;simp_all
 case unOp op t x=>
  obtain⟨v,q1,q2⟩:=Aax (P:=P) (h.ev x) hs;exact⟨v,q1,by simp_all [execOp]⟩
 case convert src dst x=>
  obtain⟨v,q1,q2⟩:=sO (P:=P) (h.ev x) hs;exact⟨v,q1,by simp_all [execOp]⟩
 case fieldAddr s x f=>
  obtain⟨v,q1,q2⟩:=sR (P:=P) (h.ev x) hs;exact⟨v,q1,by simp_all [execOp]⟩
 case field s x f=>
  obtain⟨v,q1,q2⟩:=wR (P:=P) (h.ev x) hs;exact⟨v,q1,by simp_all [execOp]⟩
 case indexAddr t x i=>
  obtain⟨v,q1,q2⟩:=sS (P:=P) (h.ev x) (h.ev i) hs;exact⟨v,q1,by simp_all [execOp]⟩
 case index t x i=>
  obtain⟨v,q1,q2⟩:=wS (P:=P) (h.ev x) (h.ev i) hs;exact⟨v,q1,by simp_all [execOp]⟩
 case extract x i=>
  have hx:=h.ev x;split at hs
  ·rename_i vs e;rw [e]at hx;obtain⟨arr,hv,hr⟩:=hx;obtain⟨v,q1,q2⟩:=hr.get hs;have q1':arr[i]? =some v:=by simpa using q1
   exact⟨v,q2,by simp_all [execOp,Instr.extract]⟩
  ·cases hs
 case build t ps=>
  obtain⟨v,q1,q2⟩:=o7 (P:=P) h hs;exact⟨v,q1,by simp_all [execOp]⟩
 case slice t x lo hi mx=>
  obtain⟨v,q1,q2⟩:=o8 (P:=P) (h.ev x) (aQ h lo) (aQ h hi) (aQ h mx) hs;exact⟨v,q1,by simp_all [execOp]⟩
 case makeFunc fn fi ca=>
  split at hs
  ·rename_i f;split at hs
   ·rename_i xs ys e1 e2;injection hs with hs;subst hs;have k1:=Vv e1 (h.evs fi.toList);have k2:=Vv e2 (h.evs ca.toList);exact⟨.func (.func f) (fi.map a.eval) (ca.map a.eval),⟨_,_,rfl,by simpa using k1,by simpa using k2⟩,by simp_all [execOp,Instr.makeFunc]⟩
   ·cases hs
  ·cases hs
 case call c=>
  split at hs
  ·rename_i x t aaD hxs hts;have ea:c.args= #[x]:=by grind
   have et:c.argTypes= #[t]:=by grind
   obtain⟨v,q1,q2⟩:=wU (P:=P) (ty:=o.type) (h.ev x) hs;exact⟨v,q1,by simp_all [execOp,resolve,invoke,builtin]⟩
  ·rename_i xs ts aaD;unfold kmm at hs;split at hs
   ·rename_i ys hy;have hr:=Vw (w:=default) (H:=gx G) hy (h.evs c.args.toList);split at hs
    ·rename_i k x zs hi;injection hs with hs;subst hs;obtain⟨v,q1,q2⟩:=S5 (P:=P) (ts:=c.argTypes) (ty:=o.type) (us:=c.args.map a.eval) (vs:=ys) (w:=default) (G:=gx G) (by simpa using hr) (by simp only [Zv,hi]);refine⟨v,?_,by simp_all [execOp,resolve,invoke,builtin]⟩;simp only [Zv,hi]at q1;simpa only [KV,KC,Aa,Ab] using q1
    ·cases hs
   ·cases hs
  ·rename_i xs ts aaD;unfold kmm at hs;split at hs
   ·rename_i ys hy;have hr:=Vw (w:=default) (H:=gx G) hy (h.evs c.args.toList);split at hs
    ·rename_i k x zs hi;injection hs with hs;subst hs;obtain⟨v,q1,q2⟩:=S6 (P:=P) (ts:=c.argTypes) (ty:=o.type) (us:=c.args.map a.eval) (vs:=ys) (w:=default) (G:=gx G) (by simpa using hr) (by simp only [Zw,hi]);refine⟨v,?_,by simp_all [execOp,resolve,invoke,builtin]⟩;simp only [Zw,hi]at q1;simpa only [KV,KC,Aa,Ab] using q1
    ·cases hs
   ·cases hs
  ·rename_i x t aaD hxs hts;have ea:c.args= #[x]:=by grind
   have et:c.argTypes= #[t]:=by grind
   unfold AcP at hs;split at hs
   ·rename_i id N off len k hx;injection hs with hs;subst hs;have hx':=h.ev x;rw [hx]at hx';obtain⟨b,cap,o,g1,g2,g3,g4,g5,g6⟩:=hx';have ho:=g5 (.inl (by omega));subst ho;refine⟨_,⟨b,g1,rfl⟩,fun w'=>?_⟩;have:=Lib.run_unsafeSliceData_row (P:=P) (w:=w') c.argTypes o.type ⟨b,off*N,none⟩ len (cap - off) (by omega);simp_all [execOp,resolve,invoke,builtin]
   ·cases hs
  ·cases hs
def Sc (I:World->Prop) (gt:List (Nat×List Kc)):Prop:= ∀ g cs,(g,cs)∈gt-> ∀ w,I w-> ∃ cur T fz vs,w.heap[g]? =some (.cells cur T fz)/\cur.toList=vs/\KL ⟨fun _=>none,fun _=>none,[]⟩ cs vs
def kgl:List (Nat×List Kc)->Nat->Option (List Kc)
 | [],_=>none
 | (g,cs)::r,n=>match Nat.beq g n with
   | true=>some cs
   | false=>kgl r n
theorem mH: ∀ {gt:List (Nat×List Kc)} {n:Nat} {cs:List Kc},kgl gt n=some cs->(n,cs)∈gt
 | [],_,_,h=>by cases h
 | (g,ds)::r,n,cs,h=>by
   simp only [kgl]at h;split at h
   ·rename_i hb;have:=eq_of_beq_eq_true hb;injection h with h;subst h this;simp
   ·exact List.mem_cons_of_mem _ (mH h)
def kld (P:Program) (gt:List (Nat×List Kc)) (h:Kt Ke) (tm:Kt Kv) (op:Op):Option Kv:=match op with
 | .load t x=>match FW P t with
   | some (ag,n)=>match Fa tm x with
     | .c (.p id off)=>match h.get id with
       | some e=>OD ag off n e.cs
       | none=>none
     | .c (.g g off)=>match kgl gt g with
       | some cs=>OD ag off n cs
       | none=>none
     | _=>none
   | none=>none
 | _=>none
theorem Ir {w:World} {t:TypeId} {ag:Bool} {n b off:Nat} {cs:List Kc} {cur:Array Value} {T:TypeId} {fz:Nat×Nat} {r:Kv} (ht:FW P t=some (ag,n)) (hh:w.heap[b]? =some (.cells cur T fz)) (hl:KL G cs (cur.toList.take cs.length)) (hs:cs.length<=cur.size) (hp:OD ag off n cs=some r):
 ∃ v,KV G r v/\(Instr.loadAt t (.pointer (some ⟨b,off,none⟩))).run P w= .ok v w:=by
 obtain⟨d,i,hu,hd,hi,Tr⟩:=Bw ht;have aah: ∀ k,w.cell? ⟨b,k,none⟩=cur[k]? :=fun k=>by simp [World.cell?,hh]
 rcases RJ hp with ⟨rfl,h1,rfl⟩ | ⟨rfl,h1,c,h2,rfl⟩
 ·have hl2:((cur.toList.drop off).take n)=(((cur.toList.take cs.length).drop off).take n):=by
   rcases h1 with h1 | h1
   ·rw [List.drop_take,take_take];congr 1;omega
   ·subst h1;simp
  have hlen:((cs.drop off).take n).length =n:=by
   rcases h1 with h1 | h1
   ·simp;omega
   ·subst h1;simp
  refine⟨.agg ((cur.toList.drop off).take n).toArray,⟨_,rfl,?_⟩,?_⟩
  ·rw [hl2];simpa using (hl.drop off).take n
  ·refine run_loadAt_mid w b off t ((cur.toList.drop off).take n) d ?_ hu hd ?_
   ·intro j v hv;rw [aah];rw [getElem?_take]at hv;split at hv
    ·rw [List.getElem?_drop]at hv;simpa using hv
    ·cases hv
   ·have:=((hl.drop off).take n).len;rw [hl2, <-this,hlen, <-Tr];simp [hi]
 ·obtain⟨v,hv,hr⟩:=hl.get h2;refine⟨v,hr,Cv hu hd ?_⟩;rw [aah];rw [getElem?_take]at hv;split at hv
  ·simpa using hv
  ·cases hv
theorem sU {F:KF} {c n:Nat} {h:Kt Ke} {w:World} {gt:List (Nat×List Kc)} {tm:Kt Kv} {a:Act} (hgt:Sc F.I gt) (hk:HK F c h w G) (I_:SK n tm a G) {o:Oper} {r:Kv} (hs:kld P gt h tm o.op=some r):
 ∃ v,KV G r v/\(execOp a.eval o).run P w= .ok (.value v) w:=by
 cases ho:o.op<;>simp only [kld,ho]at hs<;>try (cases hs;done)
 rename_i t x;have hx:=I_.ev x;split at hs
 ·rename_i ag m ht;split at hs
  ·rename_i id off e;rw [e]at hx;obtain⟨b,hb,hv⟩:=hx;split at hs
   ·rename_i d hd;obtain⟨b',T,cur,fz,_,h1,h2,h3,h4,_⟩:=hk.ent id d hd;rw [hb]at h1;injection h1 with h1;subst h1;obtain⟨v,q1,q2⟩:=Ir ht h2 h4 h3 hs;exact⟨v,q1,by simp_all [execOp]⟩
   ·cases hs
  ·rename_i g off e;rw [e]at hx;simp only [KV,KC]at hx;split at hs
   ·rename_i cs hcs;have hI:F.I w:=hk.inv w hk.hsize hk.ext;obtain⟨cur,T,fz,vs,h1,h2,h3⟩:=hgt g cs (mH hcs) w hI;have h3':KL G cs vs:=h3.mono (G':=G) (Kg.le.mk (fun _ _ q=>by cases q) (fun _ _ q=>by cases q));have hl:=h3'.len;subst h2;obtain⟨v,q1,q2⟩:=Ir ht h1 (by rw [hl,take_length];exact h3') (by simpa using Nat.le_of_eq hl) hs;exact⟨v,q1,by simp_all [execOp]⟩
   ·cases hs
  ·cases hs
 ·cases hs
end
end
end Go.PL
namespace Go.PL
open Go Go.RowKit
noncomputable section
section
variable {P:Program} {G:Kg}
theorem YH: ∀ {cs:List Kc} {vs:List Value},cs.length=vs.length->(∀ (i:Nat) (c:Kc) (v:Value),cs[i]? =some c->vs[i]? =some v->KC G c v)->KL G cs vs
 | [],[],_,_=>rfl
 | [],_::_,h,_=>by simp at h
 | _::_,[],h,_=>by simp at h
 | c::cs,v::vs,h,hr=>⟨v,vs,rfl,hr 0 c v (by simp) (by simp),YH (by simpa using h) (fun i c' v' h1 h2=>hr (i+1) c' v' (by simpa using h1) (by simpa using h2))⟩
def FT (z:List Kc):Nat->List Kc
 | 0=>[]
 | k+1=>z++FT z k
theorem Fb (z:List Kc): ∀ k,(FT z k).length =k*z.length
 | 0=>by simp [FT]
 | k+1=>by simp [FT,Fb z k,add_mul];omega
theorem Vy (z:List Kc): ∀ (k i:Nat),i<k*z.length->(FT z k)[i]? =z[i % z.length]?
 | 0,i,h=>by simp at h
 | k+1,i,h=>by
   simp only [FT,List.getElem?_append];split
   ·rename_i hi;rw [Nat.mod_eq_of_lt hi]
   ·rename_i hi;rw [add_mul]at h;have e1:=Vy z k (i - z.length) (by omega);rw [e1, <-Nat.mod_eq_sub_mod (by omega)]
theorem Qu {z:List Kc} {zv:Array Value} (h:KL G z zv.toList) (hz:0<z.length) (k:Nat):KL G (FT z k) ((Array.range (k*zv.size)).map (zv[· % zv.size]!)).toList :=by
 have hl:z.length=zv.size:=by simpa using h.len
 refine YH (by simp [Fb,hl]) (fun i c v h1 h2=>?_);simp only [Array.toList_map,List.getElem?_map,Array.toList_range]at h2;by_cases hi:i<k*z.length
 ·rw [Vy z k i hi]at h1;rw [List.getElem?_range (by rw [<-hl];omega)]at h2;simp only [map_some,injEq]at h2;obtain⟨v',q1,q2⟩:=h.get h1;have hm:i % z.length<z.length:=Nat.mod_lt _ hz;grind
 ·have:=List.getElem?_eq_none_iff.2 (show (FT z k).length <=i by rw [Fb];omega);rw [this]at h1;cases h1
def kmk (P:Program) (tm:Kt Kv) (op:Op) (id:Nat):Option (Ke×Kv):=match op with
 | .alloc T=>match Vt P T with
   | some z=>some (⟨some (T,0),z,false⟩, .c (.p id 0))
   | none=>none
 | .box _ x=>match (Fa tm x).cells with
   | some cs=>some (⟨none,cs,false⟩, .c (.p id 0))
   | none=>none
 | .buildSlice t len ps=>match Cw P t with
   | some (E,n,_)=>match Vt P E with
     | some z=>match Nat.beq z.length n&&(Nat.blt 0 n&&Nat.ble (len*n) 16777216)with
       | true=>match OF (fun i=>some (i*n,n)) (FT z len) (sK tm ps.toList)with
         | some cs=>some (⟨some (E,n),cs,false⟩, .c (.l id n 0 len len))
         | none=>none
       | false=>none
     | none=>none
   | none=>none
 | .makeSlice t l c=>match Fa tm l,Fa tm c,Cw P t with
   | .c (.i _ l), .c (.i _ c),some (E,n,by')=>match Vt P E with
     | some z=>match Nat.beq z.length n&&(Nat.blt 0 n&&(decide (0<=l)&&(decide (l<=c)&&(decide (c*by'<=140737488355328)&&decide (c<=maxLen)))))with
       | true=>some (⟨some (E,n),FT z c.toNat,false⟩, .c (.l id n 0 l.toNat c.toNat))
       | false=>none
     | none=>none
   | _,_,_=>none
 | .convert src dst x=>match Fa tm x with
   | .c (.s s)=>match Cb P src,dD P dst with
     | true,some e=>match Nat.ble s.length 140737488355328 with
       | true=>some (⟨none,s.map fun b=> .i .u8 b.toNat,true⟩, .c (.l id 1 0 s.length s.length))
       | false=>none
     | _,_=>none
   | _=>none
 | _=>none
theorem YI {place:Nat->Option (Nat×Nat)}: ∀ (l:List (Nat×Kv)) (b out:List Kc),OF place b l=some out->out.length=b.length
 | [],b,out,h=>by simp only [OF,injEq]at h;subst h;rfl
 | (i,v)::r,b,out,h=>by
   simp only [OF]at h;split at h
   ·rename_i off size cs _ _;split at h
    ·rename_i hb;have hb1:=eq_of_beq_eq_true hb;split at h
     ·rename_i r0 hr0;obtain⟨e0,hb2⟩:=Mh hr0;have:=YI r _ out h;rw [e0]at this;simp at this;omega
     ·cases h
    ·cases h
   ·cases h
theorem sV {F:KF} {c c' n:Nat} {h:Kt Ke} {w:World} {tm:Kt Kv} {a:Act} (hk:HK F c h w G) (I_:SK n tm a G) {id:Nat} (hid:id<c') (hc:c<=c') (hun:G.blk id=none/\G.cap id=none) (hh:h.get id=none) {o:Oper} {e:Ke} {v:Kv} (hs:kmk P tm o.op id=some (e,v)):
 ∃ u w' G',(execOp a.eval o).run P w= .ok (.value u) w'/\HK F c' (h.put id (some e)) w' G'/\CP h G w (h.put id (some e)) G' w'/\KV G' v u/\(∀ i,i ≠ id->G'.blk i=G.blk i/\G'.cap i=G.cap i)/\G'.blk id=some w.heap.size:=by
 have fin: ∀ {cur:Array Value} {T:TypeId} {k:Nat} {u:Value},(execOp a.eval o).run P w= .ok (.value u) (w.alloc (.cells cur T))->e.cs.length<=cur.size->KL G e.cs (cur.toList.take e.cs.length)->
  (∀ E N,e.row=some (E,N)->T=E/\(N=0->cur.size=e.cs.length)/\(0<N->cur.size=k*N/\k<=maxLen))->(∀ G':Kg,G'.blk id=some w.heap.size->(G'.cap id=eY e.row k)->KV G' v u)->
  ∃ u w' G',(execOp a.eval o).run P w= .ok (.value u) w'/\HK F c' (h.put id (some e)) w' G'/\CP h G w (h.put id (some e)) G' w'/\KV G' v u/\(∀ i,i ≠ id->G'.blk i=G.blk i/\G'.cap i=G.cap i)/\G'.blk id=some w.heap.size:=fun {cur T k u} q1 q2 q3 q4 q5=>by
  obtain⟨k1,k2⟩:=hk.made id hid hc hun hh q2 q3 q4;exact⟨u,_,_,q1,k1,k2,q5 _ (by simp [Kg.set_blk]) (by simp [Kg.set_cap]),fun i hi=>by rw [Kg.set_blk,Kg.set_cap,if_neg hi,if_neg hi];exact⟨rfl,rfl⟩,by simp [Kg.set_blk]⟩
 cases ho:o.op<;>simp only [kmk,ho]at hs<;>try (cases hs;done)
 case alloc T=>
  split at hs
  ·rename_i z hz;injection hs with hs;injection hs with h1 h2;subst h1 h2;obtain⟨i,zv,hi,hzv,hr⟩:=Lo (G:=G) hz;have hl:=hr.len;refine fin (cur:=zv.cells) (T:=T) (k:=0) (u:= .pointer (some ⟨w.heap.size,0,none⟩)) ?_ (by simp at hl;simp [hl]) (by rw [hl,take_length];exact hr) (fun E N q=>by injection q with q;injection q with q1 q2;subst q1 q2;exact⟨rfl,fun _=>by simp at hl;simp [hl],fun q=>absurd q (by omega)⟩) (fun G' q _=>⟨_,q,rfl⟩);simp_all [execOp,Instr.alloc,aap,newVar,newRow]
  ·cases hs
 case box T x=>
  split at hs
  ·rename_i cs hcs;injection hs with hs;injection hs with h1 h2;subst h1 h2;have hr:=(I_.ev x).cells hcs;have hl:=hr.len;refine fin (cur:=(a.eval x).cells) (T:=T) (k:=0) (u:= .pointer (some ⟨w.heap.size,0,none⟩)) ?_ (by simp at hl;simp [hl]) (by rw [hl,take_length];exact hr) (by simp) (fun G' q _=>⟨_,q,rfl⟩);simp [execOp,ho,Instr.box,newVar,newRow]
  ·cases hs
 case buildSlice t len ps=>
  split at hs
  ·rename_i E m by' R_;split at hs
   ·rename_i z hz;split at hs
    ·rename_i hb;simp only [and_eq_true,ble_eq,blt_eq]at hb;have hb1:=eq_of_beq_eq_true hb.1;obtain⟨_,hb2,hb3⟩:=hb;split at hs
     ·rename_i cs hf;injection hs with hs;injection hs with h1 h2;subst h1 h2;obtain⟨i,zv,hu,hi,hzv,Tr,hby,hzs⟩:=Bh R_;obtain⟨i',zv',M_,Tq,hr⟩:=Lo (G:=G) hz;rw [hi]at M_;injection M_ with M_;subst M_;rw [hzv]at Tq;injection Tq with Tq;subst Tq;have hzr:=Qu hr (by omega) len;obtain⟨Q_,q1,q2⟩:=Vs hf (Vu I_ ps.toList) hzr;have hcl:cs.length=len*m:=by rw [YI _ _ _ hf,Fb,hb1]
      have hl:=q2.len;have hM:maxLen=9223372036854775807:=rfl;have hlen:len<=maxLen:=by have:len*1<=len*m:=Nat.mul_le_mul_left _ hb2;omega
      have q1':Instr.fill (fun i=>some (i*m,m)) ((Array.range (len*m)).map (zv.cells[· % zv.cells.size]!)) (ps.map fun(i,x)=>(i,a.eval x)).toList =some Q_:=by rw [hzs]at q1;simpa [hzs] using q1
      refine fin (cur:=Q_) (T:=E) (k:=len) (u:= .slice (some ⟨w.heap.size,0,none⟩) len len) ?_ (by simp at hl;simp [hl]) (by rw [hl,take_length];exact q2) (fun E' N' q=>?_) (fun G' g1 g2=>?_)
      ·have:=aaj (P:=P) (w:=w) (ps:=ps.map fun(i,x)=>(i,a.eval x)) hu hi hzv Tr hb2 (by omega) q1';simp [execOp,ho,this]
      ·simp only [injEq,Prod.mk.injEq]at q;obtain⟨rfl,rfl⟩:=q;exact⟨rfl,fun _=>by omega,fun _=>⟨by simp at hl;omega,hlen⟩⟩
      ·exact⟨_,len,0,g1,by rw [g2];rfl,le_refl _,by omega,by omega,by simp⟩
     ·cases hs
    ·cases hs
   ·cases hs
  ·cases hs
 case makeSlice t l cc=>
  split at hs
  ·rename_i k1 l' k2 c2 E m by' hx hy R_;have hx':=I_.ev l;have hy':=I_.ev cc;rw [hx]at hx';rw [hy]at hy';simp only [KV,KC]at hx' hy';split at hs
   ·rename_i z hz;split at hs
    ·rename_i hb;simp only [and_eq_true,blt_eq,decide_eq_true_eq]at hb;have hb1:=eq_of_beq_eq_true hb.1;obtain⟨_,hb2,hb3,hb4,hb5,hb6⟩:=hb;injection hs with hs;injection hs with h1 h2;subst h1 h2;obtain⟨i,zv,hu,hi,hzv,Tr,hby,hzs⟩:=Bh R_;obtain⟨i',zv',M_,Tq,hr⟩:=Lo (G:=G) hz;rw [hi]at M_;injection M_ with M_;subst M_;rw [hzv]at Tq;injection Tq with Tq;subst Tq;have hM:maxLen=9223372036854775807:=rfl;have h_:=run_make (P:=P) w t E i zv hu hi hzv k1 k2 l' c2 hb3 hb4 (by rw [hby,Int.mul_comm];omega) (by omega);have hzr:=Qu hr (by omega) c2.toNat
     have hcl:(FT z c2.toNat).length =c2.toNat*m:=by rw [Fb,hb1]
     have alS:(madeCells zv.cells (c2.toNat*i.size)).toList =((Array.range (c2.toNat*zv.cells.size)).map (zv.cells[· % zv.cells.size]!)).toList :=by simp [madeCells,hzs,Tr]
     have hl:=hzr.len;refine fin (cur:=madeCells zv.cells (c2.toNat*i.size)) (T:=E) (k:=c2.toNat) (u:= .slice (some ⟨w.heap.size,0,none⟩) l'.toNat c2.toNat) ?_ (by simp only;rw [hcl,size_madeCells,Tr];exact le_refl _) (by simp only;rw [alS,hl,take_length];exact hzr) (fun E' N' q=>?_) (fun G' g1 g2=>?_)
     ·simp_all [execOp]
     ·simp only [injEq,Prod.mk.injEq]at q;obtain⟨rfl,rfl⟩:=q;exact⟨rfl,fun _=>by omega,fun _=>⟨by rw [size_madeCells,Tr],by omega⟩⟩
     ·exact⟨_,c2.toNat,0,g1,by rw [g2];rfl,by omega,by omega,by omega,by simp⟩
    ·cases hs
   ·cases hs
  ·cases hs
 case convert src dst x=>
  split at hs
  ·rename_i s hx;have hx':=I_.ev x;rw [hx]at hx';simp only [KV,KC]at hx';split at hs
   ·rename_i E hs1 hd;split at hs
    ·rename_i hlen;injection hs with hs;injection hs with h1 h2;subst h1 h2;obtain⟨g1,g2⟩:=T5 hd;obtain⟨u,hu⟩: ∃ u,P.underlying src=some u:=⟨_,B5 hs1⟩;have h_:(execOp a.eval o).run P w= .ok (.value (.slice (some ⟨w.heap.size,0,none⟩) s.length (grownCap w s.length 0 E))) (Lib.bytesWorld w E ⟨s.toArray⟩):=by simp_all [Lib.run_convert_string_bytes,execOp,ByteArray.size]
     have hle:G.le (G.set id w.heap.size (some (grownCap w s.length 0 E))):=Kg.set_le hun.1 hun.2;have ajz:=Lib.bytesWorld_below w E ⟨s.toArray⟩;have J_:=Lib.bytesWorld_at_new w E ⟨s.toArray⟩;have hcl:(Lib.bytesCells w E ⟨s.toArray⟩).toList.take s.length=s.map fun b=>Value.int .u8 b.toNat:=by
      apply List.ext_getElem?;intro j;have:=fun hj=>Lib.bytesWorld_cell w E ⟨s.toArray⟩ j hj;simp only [World.cell?,J_]at this;rw [getElem?_take,List.getElem?_map];split
      ·rename_i hj;have h3:=this (by simpa [ByteArray.size] using hj);simp only [Option.isSome_none,Bool.false_eq_true,if_false]at h3;simp only [Array.getElem?_toList];rw [h3];simp [List.getD_eq_getElem?_getD,hj]
      ·rename_i hj;simp [List.getElem?_eq_none_iff.2 (Nat.le_of_not_lt hj)]
     have Tr:s.length<=(Lib.bytesCells w E ⟨s.toArray⟩).size :=by have h3:=congrArg List.length hcl;simp at h3;omega
     have hKL: ∀ l:List UInt8,KL (G.set id w.heap.size (some (grownCap w s.length 0 E))) (l.map fun b=>Kc.i .u8 b.toNat) (l.map fun b=>Value.int .u8 b.toNat):=fun l=>by
      induction l with
      | nil=>rfl
      | cons b l ih=>exact⟨_,_,rfl,rfl,ih⟩
     obtain⟨t1,t2⟩:=hk.turn (h':=h.put id (some ⟨none,s.map fun b=> .i .u8 b.toNat,true⟩)) (c':=c') (G':=G.set id w.heap.size (some (grownCap w s.length 0 E))) (w':=Lib.bytesWorld w E ⟨s.toArray⟩) (id:=id) (tb:=w.heap.size) (ob:=w.heap.size) (Co ajz) (Cx ajz).size (fun b hb _ _=>(Cx ajz).block b hb) (.inl (le_refl _)) (.inl (le_refl _)) hle
      (fun i hi=>by rw [Kg.set_blk,Kg.set_cap,if_neg (by omega),if_neg (by omega)];exact hk.fr i (by omega)) fun i d hi=>by
       rw [Kt.get_put]at hi;by_cases q:i=id
       ·rw [if_pos q]at hi;injection hi with hi;subst hi q;refine .inl ⟨rfl,⟨w.heap.size,E,_,_,(fun(q:true=false)=>by cases q),by simp [Kg.set_blk],J_,by simpa using Tr,?_,trivial⟩,by simp [Kg.set_blk]⟩;simp only [List.length_map];rw [hcl];exact hKL s
       ·rw [if_neg q]at hi;exact .inr ⟨q,hi,fun b hb=>by have:=hk.lt hi hb;omega⟩
     refine⟨_,_,_,h_,t1,t2,?_,fun i hi=>by rw [Kg.set_blk,Kg.set_cap,if_neg hi,if_neg hi];exact⟨rfl,rfl⟩,by simp [Kg.set_blk]⟩;exact⟨w.heap.size,grownCap w s.length 0 E,0,by simp [Kg.set_blk],by simp [Kg.set_cap],le_refl _,by have:=grownCap_ge w s.length 0 E;omega,by omega,by simp⟩
    ·cases hs
   ·cases hs
  ·cases hs
end
end
end Go.PL
namespace Go.PL
open Go Go.RowKit
noncomputable section
section
variable {P:Program} {G:Kg}
def jF (P:Program) (h:Kt Ke) (T:TypeId) (x y:Kv):Option (Kt Ke):=match x,y.cells,FW P T with
 | .c (.p id off),some cs,some (_,n)=>match h.get id with
   | some ⟨row,es,false⟩=>match Nat.beq cs.length n with
     | true=>match o6 off cs es with
       | some r=>some (h.put id (some ⟨row,r,false⟩))
       | none=>none
     | false=>none
   | _=>none
 | _,_,_=>none
theorem o9 {F:KF} {c:Nat} {h h':Kt Ke} {w:World} (hk:HK F c h w G) {T:TypeId} {x y:Kv} {u v:Value} (hx:KV G x u) (hy:KV G y v) (hs:jF P h T x y=some h'):
 ∃ w',(Instr.storeAt T u v).run P w= .ok () w'/\HK F c h' w' G/\CP h G w h' G w':=by
 unfold jF at hs;split at hs
 ·rename_i id off cs ag n hc ht;split at hs
  ·rename_i row es he;split at hs
   ·rename_i hb;split at hs
    rotate_left
    ·cases hs
    rename_i r hr0;obtain⟨e0,h2⟩:=Mh hr0;injection hs with hs;subst hs;have h1:=eq_of_beq_eq_true hb;subst e0;obtain⟨d,i,hu,hd,hi,Tr⟩:=Bw ht;obtain⟨b,hb',rfl⟩:=hx;have hv:=hy.cells hc;have hlv:=hv.len;obtain⟨b2,T',cur,g1,abP,aeR,hR⟩:=hk.stored he rfl (off:=off) (xs:=cs) hv (by simp only;omega);rw [hb']at g1;injection g1 with g1;subst g1;refine⟨_,?_,hR⟩;have IN:=run_storeCells_at P b off T' v.cells.toList 0 cur w abP (by simpa using aeR) hv.one;simp only [add_zero]at IN;simp_all [Instr.storeAt,Instr.sureAddr,storeVar,sizeOf,typeInfo]
   ·cases hs
  ·cases hs
 ·cases hs
def AaD (h:Kt Ke) (N:Nat):Kv->Option (Nat×List Kc)
 | .c (.z (.slice none 0 0))=>some (0,[])
 | .c .e =>some (0,[])
 | .c (.l id M off m _)=>match m with
   | 0=>some (0,[])
   | m+1=>match h.get id with
     | some e=>match Nat.beq M N with
       | true=>match ktk ((m+1)*N) (wM (off*N) e.cs)with
         | some r=>some (m+1,r)
         | none=>none
       | false=>none
     | none=>none
 | _=>none
theorem mI {F:KF} {c:Nat} {h:Kt Ke} {w:World} (hk:HK F c h w G) {N m:Nat} {x:Kv} {cs:List Kc} {u:Value} (hx:KV G x u) (hs:AaD h N x=some (m,cs)):
 (m=0/\cs=[]/\ ∃ ad cap,u= .slice ad 0 cap)\/(0<m/\ ∃ ad cap vs,u= .slice (some ad) m cap/\KL G cs vs/\vs.length=m*N/\ ∀ j v,vs[j]? =some v->w.cell? (ad.add j)=some v):=by
 unfold AaD at hs;split at hs
 ·simp only [injEq,Prod.mk.injEq]at hs;obtain⟨rfl,rfl⟩:=hs;obtain⟨rfl,_⟩:=hx;exact .inl ⟨rfl,rfl,_,_,rfl⟩
 ·simp only [injEq,Prod.mk.injEq]at hs;obtain⟨rfl,rfl⟩:=hs;obtain⟨p,rfl⟩:=hx;exact .inl ⟨rfl,rfl,_,_,rfl⟩
 ·rename_i id M off m' rm;obtain⟨b,cap,o,g1,g2,g3,g4,g5,rfl⟩:=hx;split at hs
  ·simp only [injEq,Prod.mk.injEq]at hs;obtain⟨rfl,rfl⟩:=hs;exact .inl ⟨rfl,rfl,_,_,rfl⟩
  ·rename_i k;split at hs
   ·rename_i e he;split at hs
    ·rename_i hb;split at hs
     rotate_left
     ·cases hs
     rename_i r0 hr0;obtain⟨e0,h2⟩:=jB hr0;rw [SR]at e0 h2;have h2:((e.cs.drop (off*N)).take ((k+1)*N)).length =(k+1)*N:=by rw [List.length_take];omega
     have h1:=eq_of_beq_eq_true hb;subst h1 e0;simp only [injEq,Prod.mk.injEq]at hs;obtain⟨rfl,rfl⟩:=hs;obtain⟨b',T,cur,fz,_,k1,k2,k3,k4,_⟩:=hk.ent id e he;rw [g1]at k1;injection k1 with k1;subst k1;have hl:=(k4.drop (off*M)).take ((k+1)*M);have hlen:=hl.len;refine .inr ⟨by omega,⟨b,o,none⟩,_,_,rfl,hl,by rw [<-hlen,h2],fun j v hj=>?_⟩;rw [Addr.add_mid,g5 (by omega)];rw [getElem?_take]at hj;split at hj
     ·rw [List.getElem?_drop,getElem?_take]at hj;split at hj
      ·simpa [World.cell?,k2] using hj
      ·cases hj
     ·cases hj
    ·cases hs
   ·cases hs
 ·cases hs
def AaE (P:Program) (h:Kt Ke) (c:Nat) (t:TypeId) (x y:Kv):Option (Kt Ke×Nat×Kv):=match Cw P t with
 | some (E,N,by')=>match AaD h N y with
   | some (0,_)=>match x with
     | .c (.z (.slice none 0 0))=>some (h,c,x)
     | .c .e =>some (h,c,x)
     | .c (.l ..)=>some (h,c,x)
     | _=>none
   | some (m+1,cs)=>match x with
     | .c (.z (.slice none 0 0))=>match Nat.blt 0 N&&(Nat.ble ((m+1)*by') 140737488355328&&Nat.ble (m+1) maxLen)with
       | true=>some (h.put c (some ⟨some (E,N),cs,false⟩),c+1, .c (.l c N 0 (m+1) (m+1)))
       | false=>none
     | .c .e =>match Nat.blt 0 N&&(Nat.ble ((m+1)*by') 140737488355328&&Nat.ble (m+1) maxLen)with
       | true=>some (h.put c (some ⟨some (E,N),cs,false⟩),c+1, .c (.l c N 0 (m+1) (m+1)))
       | false=>none
     | .c (.l id M off len rm)=>match h.get id with
       | some ⟨some (E',N'),es,false⟩=>match Nat.beq off 0&&(Nat.beq M N&&(Nat.beq E' E&&(Nat.beq N' N&&(Nat.blt 0 N&&(Nat.ble ((len+(m+1))*by') 140737488355328&&Nat.ble (len+(m+1)) maxLen)))))with
         | true=>match Nat.ble (len+(m+1)) rm&&Nat.ble ((len+(m+1))*N) es.length with
           | true=>match o6 (len*N) cs es with
             | some r=>some (h.put id (some ⟨some (E',N'),r,false⟩),c, .c (.l id N 0 (len+(m+1)) rm))
             | none=>none
           | false=>match wN (len*N) cs es with
             | some r=>some ((h.put id none).put c (some ⟨some (E,N),r,false⟩),c+1, .c (.l c N 0 (len+(m+1)) (len+(m+1))))
             | none=>none
         | false=>none
       | _=>none
     | _=>none
   | none=>none
 | none=>none
theorem HK.grown {F:KF} {c:Nat} {h h1:Kt Ke} {w w':World} (hk:HK F c h w G) {E N k:Nat} {v v':Value} {cs:List Kc} {us:List Value} (hcs:KL G cs us) (hk0:0<k) (hN0:0<N)
 (J_:w'.ownsRow 0 E N v' k us) (hg:w.grownBy w' v.ownBlock) (hfr:v'.ownBlock=v.ownBlock\/ ∀ b,v'.ownBlock=some b->w.heap.size<=b)
 (z_: ∀ b,v.ownBlock=some b-> ∃ j d,h.get j=some d/\G.blk j=some b) (hh1: ∀ i d,h1.get i=some d->h.get i=some d/\ ∀ b,G.blk i=some b->v.ownBlock ≠ some b):
 ∃ G',HK F (c+1) (h1.put c (some ⟨some (E,N),cs,false⟩)) w' G'/\CP h G w (h1.put c (some ⟨some (E,N),cs,false⟩)) G' w'/\KV G' (.c (.l c N 0 k k)) v'/\Kp c G G':=by
 obtain⟨hlen,h2⟩:=J_;rcases h2 with ⟨_,h0⟩ | ⟨g,cap,cur,rfl,_,q2,q3,q4,q5,q6⟩
 ·omega
 have hun:=hk.fr c (le_refl c);have hle:G.le (G.set c g (some cap)):=Kg.set_le hun.1 hun.2;have hlc:=hcs.len;have htb:w.heap.size<=g\/ ∃ j d,h.get j=some d/\G.blk j=some g:=by
  rcases hfr with q | q
  ·exact .inr (z_ g (by rw [<-q];rfl))
  ·exact .inl (q g rfl)
 obtain⟨ob,aon,alN⟩: ∃ ob,(∀ k,k ≠ ob->some k ≠ v.ownBlock)/\(w.heap.size<=ob\/ ∃ j d,h.get j=some d/\G.blk j=some ob)/\(∀ b,v.ownBlock ≠ some b->b=ob->ob=w.heap.size):=by
  cases hv:v.ownBlock with
  | none=>exact⟨w.heap.size,by simp, .inl (le_refl _),by simp⟩
  | some b=>exact⟨b,fun k hk=>by simpa using hk, .inr (z_ b hv),fun b' hb' e=>by simp_all⟩
 have Tr:us.length<=cur.size:=by rw [hlen,q5];exact Nat.mul_le_mul_right _ q3
 obtain⟨t1,t2⟩:=hk.turn (h':=h1.put c (some ⟨some (E,N),cs,false⟩)) (c':=c+1) (G':=G.set c g (some cap)) (w':=w') (id:=c) (tb:=g) (ob:=ob) ⟨hg.os,hg.tape,hg.output⟩ hg.size
  (fun b hb _ n_=>hg.block b hb (aon b n_)) htb alN.1 hle (fun i hi=>by rw [Kg.set_blk,Kg.set_cap,if_neg (by omega),if_neg (by omega)];exact hk.fr i (by omega)) fun i d hi=>by
   rw [Kt.get_put]at hi;by_cases q:i=c
   ·rw [if_pos q]at hi;injection hi with hi;subst hi q;refine .inl ⟨rfl,⟨g,E,cur,(0,0),fun _=>rfl,by simp [Kg.set_blk],q2,by simp only;omega,?_,rfl,fun q=>absurd q (by omega),fun _=>⟨cap,by simp [Kg.set_cap],q5,q4⟩⟩,by simp [Kg.set_blk]⟩;simp only;rw [hlc,hlen,q6];exact hcs.mono hle
   ·rw [if_neg q]at hi;obtain⟨p1,p2⟩:=hh1 i d hi;refine .inr ⟨q,p1,fun b hb=>⟨fun e=>?_,fun e=>?_⟩⟩
    ·subst e;rcases hfr with r | r
     ·exact p2 b hb (by rw [<-r];rfl)
     ·have:=r b rfl;have:=hk.lt p1 hb;omega
    ·have:=alN.2 b (p2 b hb) e;have:=hk.lt p1 hb;omega
 refine⟨_,t1,t2,⟨g,cap,0,by simp [Kg.set_blk],by simp [Kg.set_cap],le_refl _,by omega,by omega,by simp⟩,fun i hi=>?_⟩;rw [Kg.set_blk,Kg.set_cap,if_neg (by omega),if_neg (by omega)];exact⟨rfl,rfl⟩
theorem wV {F:KF} {c c':Nat} {h h':Kt Ke} {w:World} (hk:HK F c h w G) {t ty:TypeId} {x y r:Kv} {u v:Value} (hx:KV G x u) (hy:KV G y v) (hs:AaE P h c t x y=some (h',c',r)):
 ∃ z w' G',(Builtin.append_ #[t,t] ty #[u,v]).run P w= .ok z w'/\HK F c' h' w' G'/\CP h G w h' G' w'/\KV G' r z/\Kp c G G'/\c<=c':=by
 unfold AaE at hs;split at hs
 ·rename_i E N by' R_;obtain⟨i,z,hu,hi,hz,Tr,hby,hzs⟩:=Bh R_;split at hs
  ·rename_i cs afp;have hq:=mI hk hy afp;rcases hq with ⟨_,_,ad,cap,rfl⟩ | ⟨h0,_⟩
   ·have main: ∀ bs len cp,u= .slice bs len cp->len<=cp->some (h,c,x)=some (h',c',r)->
     ∃ z w' G',(Builtin.append_ #[t,t] ty #[u, .slice ad 0 cap]).run P w= .ok z w'/\HK F c' h' w' G'/\CP h G w h' G' w'/\KV G' r z/\Kp c G G'/\c<=c':=fun bs len cp e hc q=>by
     subst e;simp only [injEq,Prod.mk.injEq]at q;obtain⟨rfl,rfl,rfl⟩:=q;refine⟨.slice bs len cp,w,G,?_,hk,CP.refl h G w,hx,Kp.refl c G,le_refl _⟩;cases bs<;>cases ad<;>simp [Builtin.append_,run_underlying hu,sizeOf,typeInfo,program,Sem.run,hi,Builtin.lenOf,Builtin.firstCells,hc,storeCells,loadCells,loadCellsFrom]
    split at hs
    ·have hx':=hx;obtain⟨rfl,_⟩:=hx';exact main none 0 0 rfl (le_refl _) hs
    ·have hx':=hx;obtain⟨p,rfl⟩:=hx';exact main p 0 0 rfl (le_refl _) hs
    ·have hx':=hx;obtain⟨b,cp,o,g1,g2,g3,g4,g5,rfl⟩:=hx';exact main _ _ _ rfl (by omega) hs
    ·cases hs
   ·omega
  ·rename_i m cs afp;have hq:=mI hk hy afp;rcases hq with ⟨h0,_⟩ | ⟨_,ad,cap,us,rfl,hcs,hlen,T_⟩
   ·omega
   split at hs
   ·have hx':=hx;obtain⟨rfl,_⟩:=hx';split at hs
    ·rename_i hb;simp only [and_eq_true,ble_eq,blt_eq]at hb;obtain⟨b1,b2,b3⟩:=hb;simp only [injEq,Prod.mk.injEq]at hs;obtain⟨rfl,rfl,rfl⟩:=hs;obtain⟨z',w',q1,q2,q3,q4⟩:=Cj (P:=P) (w:=w) t ty E i z N by' hu hi hz Tr hby hzs b1 (.slice none 0 0) 0 [] ⟨by simp, .inl ⟨rfl,rfl⟩⟩ ad (m+1) cap us hlen T_ hcs.one (by omega) (by simpa using b2);obtain⟨G',k1,k2,k3,k4⟩:=hk.grown (h1:=h) (v:= .slice none 0 0) (k:=m+1) hcs (by omega) (by omega) (by simpa using q2) q3 q4 (by simp [Value.ownBlock]) (fun i d hi=>⟨hi,by simp [Value.ownBlock]⟩);exact⟨z',w',G',q1,k1,k2,k3,k4,by omega⟩
    ·cases hs
   ·have hx':=hx;obtain⟨p,rfl⟩:=hx';split at hs
    ·rename_i hb;simp only [and_eq_true,ble_eq,blt_eq]at hb;obtain⟨b1,b2,b3⟩:=hb;simp only [injEq,Prod.mk.injEq]at hs;obtain⟨rfl,rfl,rfl⟩:=hs;cases p with
     | none=>
       obtain⟨z',w',q1,q2,q3,q4⟩:=Cj (P:=P) (w:=w) t ty E i z N by' hu hi hz Tr hby hzs b1 (.slice none 0 0) 0 [] ⟨by simp, .inl ⟨rfl,rfl⟩⟩ ad (m+1) cap us hlen T_ hcs.one (by omega) (by simpa using b2);obtain⟨G',k1,k2,k3,k4⟩:=hk.grown (h1:=h) (v:= .slice none 0 0) (k:=m+1) hcs (by omega) (by omega) (by simpa using q2) q3 q4 (by simp [Value.ownBlock]) (fun i d hi=>⟨hi,by simp [Value.ownBlock]⟩);exact⟨z',w',G',q1,k1,k2,k3,k4,by omega⟩
     | some p=>
       obtain⟨z',w',q1,q2,q3,q4⟩:=DQ (P:=P) (w:=w) t ty E i z N by' hu hi hz Tr hby hzs b1 p ad (m+1) cap us hlen T_ (by omega) b3 b2;obtain⟨G',k1,k2,k3,k4⟩:=hk.grown (h1:=h) (v:= .slice none 0 0) (k:=m+1) hcs (by omega) (by omega) q2 (by simpa [Value.ownBlock] using q3) (.inr q4) (by simp [Value.ownBlock]) (fun i d hi=>⟨hi,by simp [Value.ownBlock]⟩);exact⟨z',w',G',q1,k1,k2,k3,k4,by omega⟩
    ·cases hs
   ·rename_i id M off len rm;have hx':=hx;obtain⟨b,cp,o,g1,g2,g3,g4,g5,rfl⟩:=hx';split at hs
    ·rename_i E' N' es he;split at hs
     ·rename_i hb;simp only [and_eq_true,ble_eq,blt_eq]at hb;obtain⟨b1,b2,b3,b4,b5,b6,b7⟩:=hb;have b1:=eq_of_beq_eq_true b1;have b2:=eq_of_beq_eq_true b2;have b3:=eq_of_beq_eq_true b3;have b4:=eq_of_beq_eq_true b4;subst b1 b2 b3 b4;have ho:o=0:=by rw [g5 (.inr rfl)];simp
      subst ho;obtain⟨b',T,cur,fz,f0,k1,k2,k3,k4,k5⟩:=hk.ent id _ he;have f0:=f0 rfl;subst f0;simp only at k3 k4 k5;obtain⟨k5,_,k6⟩:=k5;obtain⟨cp',k6,k7,k8⟩:=k6 (by omega);rw [g1]at k1;injection k1 with k1;subst k1;rw [g2]at k6;injection k6 with k6;subst k6;subst k5;split at hs
      ·rename_i hr;simp only [and_eq_true,ble_eq]at hr;split at hs
       rotate_left
       ·cases hs
       rename_i r0 hr0;obtain⟨e0,_⟩:=Mh hr0;subst e0;simp only [injEq,Prod.mk.injEq]at hs;obtain⟨rfl,rfl,rfl⟩:=hs;have hl2:cs.length=(m+1)*N':=by rw [hcs.len,hlen]
       have hr2:=hr.2;have hmul:(len+(m+1))*N'=len*N'+(m+1)*N':=add_mul _ _ _;obtain⟨b2,T2,ajM,j1,j2,j3,j4,j5⟩:=hk.stored he rfl (off:=len*N') hcs (by simp only;rw [hl2, <-hmul];exact hr2);rw [g1]at j1;injection j1 with j1;subst j1;rw [k2]at j2;injection j2 with j2;injection j2 with j2 j2b;subst j2 j2b;have h_:=run_append_room (P:=P) w t ty T i hu hi b len (cp - 0) cur k2 ad (m+1) cap us (by rw [Tr];exact hlen) T_ hcs.one (by omega) (by rw [Tr];exact j3);rw [Tr]at h_;refine⟨_,_,G,h_,j4,j5,⟨b,cp,0,g1,g2,by omega,by omega,by simp,rfl⟩,Kp.refl c G,le_refl _⟩
      ·split at hs
       ·rename_i r0 hr0;obtain⟨e0,hes⟩:=aM hr0;subst e0;simp only [injEq,Prod.mk.injEq]at hs;obtain⟨rfl,rfl,rfl⟩:=hs;have aaT:=k4.take (len*N');have agS:(cur.toList.take es.length).take (len*N')=cur.toList.take (len*N'):=by rw [take_take];congr 1;omega
        rw [agS]at aaT;have alH:=aaT.len;have ah1:(es.take (len*N')).length =len*N':=by rw [List.length_take];omega
        have z_:w.ownsRow 0 T N' (.slice (some ⟨b,0,none⟩) len (cp - 0)) len (cur.toList.take (len*N')):=⟨by omega, .inr ⟨b,cp,cur,rfl,Nat.zero_le _,k2,by omega,k8,k7,rfl⟩⟩;obtain⟨z',w',q1,q2,q3,q4⟩:=Cj (P:=P) (w:=w) t ty T i z N' by' hu hi hz Tr hby hzs b5 _ len _ z_ ad (m+1) cap us hlen T_ hcs.one b7 b6;obtain⟨G',t1,t2,t3,t4⟩:=hk.grown (h1:=h.put id none) (k:=len+(m+1)) (aaT.append hcs) (by omega) (by omega) q2 q3 q4 (fun b' hb'=>by
         simp only [Value.ownBlock,injEq]at hb';subst hb';exact⟨id,_,he,g1⟩) (fun i d hi=>by
         rw [Kt.get_put]at hi;by_cases e:i=id
         ·rw [if_pos e]at hi;cases hi
         ·rw [if_neg e]at hi;refine⟨hi,fun b' hb' e2=>?_⟩;simp only [Value.ownBlock,injEq]at e2;subst e2;exact e (hk.inj i id d _ b hi he hb' g1))
        exact⟨z',w',G',q1,t1,t2,t3,t4,by omega⟩
       ·cases hs
     ·cases hs
    ·cases hs
   ·cases hs
  ·cases hs
 ·cases hs
def AaF (P:Program) (h:Kt Ke) (t:TypeId) (x:Kv):Option (Kt Ke):=match x,Cw P t with
 | .c (.z (.slice none 0 0)),some _=>some h
 | .c .e,some _=>some h
 | .c (.l id N off len _),some (E,n,_)=>match len with
   | 0=>some h
   | len+1=>match h.get id,Vt P E with
     | some ⟨row,es,false⟩,some z=>match Nat.beq n N&&(Nat.beq z.length n&&(Nat.blt 0 n&&Nat.ble ((off+(len+1))*N) es.length))with
       | true=>match o6 (off*N) (FT z (len+1)) es with
         | some r=>some (h.put id (some ⟨row,r,false⟩))
         | none=>none
       | false=>none
     | _,_=>none
 | _,_=>none
theorem wW {F:KF} {c:Nat} {h h':Kt Ke} {w:World} (hk:HK F c h w G) {t ty:TypeId} {x:Kv} {u:Value} (hx:KV G x u) (hs:AaF P h t x=some h'):
 ∃ w',(Builtin.clear_ #[t] ty #[u]).run P w= .ok (.tuple #[]) w'/\HK F c h' w' G/\CP h G w h' G w':=by
 unfold AaF at hs;have nothing: ∀ p cp,u= .slice p 0 cp-> ∀ E,P.underlying t=some (.slice E)->some h=some h'-> ∃ w',(Builtin.clear_ #[t] ty #[u]).run P w= .ok (.tuple #[]) w'/\HK F c h' w' G/\CP h G w h' G w':=fun p cp e E hE q=>by subst e;injection q with q;subst q;refine⟨w,?_,hk,CP.refl h G w⟩;cases p<;>simp [Builtin.clear_,run_underlying hE]
 split at hs
 ·rename_i y R_;obtain⟨rfl,_⟩:=hx;obtain⟨i,z,hu,_⟩:=Bh (e:=y.1) (n:=y.2.1) (by':=y.2.2) R_;exact nothing _ _ rfl _ hu hs
 ·rename_i y R_;obtain⟨p,rfl⟩:=hx;obtain⟨i,z,hu,_⟩:=Bh (e:=y.1) (n:=y.2.1) (by':=y.2.2) R_;exact nothing _ _ rfl _ hu hs
 ·rename_i id N off len rm E n by' R_;obtain⟨b,cp,o,g1,g2,g3,g4,g5,rfl⟩:=hx;obtain⟨i,z,hu,hi,hz,Tr,hby,hzs⟩:=Bh R_;split at hs
  ·exact nothing _ _ rfl _ hu hs
  ·rename_i len;split at hs
   ·rename_i row es zs he hzk;split at hs
    ·rename_i hb;simp only [and_eq_true,ble_eq,blt_eq]at hb;obtain⟨b1,b2,b3,b4⟩:=hb;have b1:=eq_of_beq_eq_true b1;have b2:=eq_of_beq_eq_true b2;subst b1;split at hs
     rotate_left
     ·cases hs
     rename_i r0 hr0;obtain⟨e0,_⟩:=Mh hr0;subst e0;injection hs with hs;subst hs;obtain⟨i',zv',M_,Tq,hr⟩:=Lo (G:=G) hzk;rw [hi]at M_;injection M_ with M_;subst M_;rw [hz]at Tq;injection Tq with Tq;subst Tq;have hzr:=Qu hr (by omega) (len+1);have hl:=Fb zs (len+1);have hmul:(off+(len+1))*n=off*n+(len+1)*n:=add_mul _ _ _;have hl2:=hzr.len;obtain⟨b2',T2,ajM,j1,j2,j3,j4,j5⟩:=hk.stored he rfl (off:=off*n) hzr (by simp only;rw [hl,b2];omega);rw [g1]at j1;injection j1 with j1;subst j1;refine⟨_,?_,j4,j5⟩;have IN:=run_storeCells_at P b (off*n) T2 _ 0 ajM w j2 (by simpa using j3) hzr.one;simp only [add_zero]at IN;have ho:o=off*n:=g5 (by omega);subst ho;have hzc:(Builtin.zeroCells z.cells (len+1)).toList =((Array.range ((len+1)*z.cells.size)).map (z.cells[· % z.cells.size]!)).toList :=rfl;have hzero:(zeroValue E).run P w= .ok z w:=aap hi hz w;clear j4 j5 hl2 hzr j3;generalize ((Array.range ((len+1)*z.cells.size)).map (z.cells[· % z.cells.size]!)).toList =vs at *;simp [Builtin.clear_,run_underlying hu,hzero,hzc,IN]
    ·cases hs
   ·cases hs
 ·cases hs
end
end
end Go.PL
namespace Go.PL
open Go Go.RowKit Go.Lib
noncomputable section
def AaG (P:Program) (t:TypeId):Option Nat:=match P.underlying t with
 | some (.slice e)=>match P.info? e with
   | some i=>match i.zero with
     | some (.int .u8 0)=>match Nat.beq i.size 1&&Nat.beq i.bytes 1 with
       | true=>some e
       | false=>none
     | _=>none
   | none=>none
 | _=>none
theorem pe {P:Program} {t e:Nat} (h:AaG P t=some e): ∃ i,P.underlying t=some (.slice e)/\P.info? e=some i/\i.zero=some (.int .u8 0)/\i.size=1/\i.bytes=1:=by
 unfold AaG at h;split at h
 ·rename_i e' he;split at h
  ·rename_i i hi;split at h
   ·rename_i hz;split at h
    ·rename_i hb;injection h with h;subst h;simp only [and_eq_true]at hb;exact⟨i,he,hi,hz,eq_of_beq_eq_true hb.1,eq_of_beq_eq_true hb.2⟩
    ·cases h
   ·cases h
  ·cases h
 ·cases h
def kbs (s:List UInt8):List Kc:=s.map fun b=> .i .u8 b.toNat
theorem jG {G:Kg}: ∀ s:List UInt8,KL G (kbs s) (strCells ⟨s.toArray⟩)
 | []=>by simp [kbs,strCells,KL]
 | b::s=>by have:=jG (G:=G) s;simp only [kbs,strCells,map_cons]at this ⊢;exact⟨_,_,rfl,rfl,this⟩
def sW (P:Program) (h:Kt Ke) (c:Nat) (t t':TypeId) (x:Kv) (s:List UInt8):Option (Kt Ke×Nat×Kv):=match AaG P t,Cb P t' with
 | some E,true=>match s.length with
   | 0=>none
   | m+1=>match x with
     | .c (.z (.slice none 0 0))=>match Nat.ble (m+1) 140737488355328 with
       | true=>some (h.put c (some ⟨some (E,1),kbs s,false⟩),c+1, .c (.l c 1 0 (m+1) (m+1)))
       | false=>none
     | .c (.l id M off len _)=>match h.get id with
       | some ⟨some (E',N'),es,false⟩=>match Nat.beq off 0&&(Nat.beq M 1&&(Nat.beq E' E&&(Nat.beq N' 1&&Nat.ble (len+(m+1)) 140737488355328)))with
         | true=>match wN len (kbs s) es with
           | some r=>some ((h.put id none).put c (some ⟨some (E,1),r,false⟩),c+1, .c (.l c 1 0 (len+(m+1)) (len+(m+1))))
           | none=>none
         | false=>none
       | _=>none
     | _=>none
 | _,_=>none
section
variable {P:Program} {G:Kg}
theorem sX {F:KF} {c c':Nat} {h h':Kt Ke} {w:World} (hk:HK F c h w G) {t t' ty:TypeId} {x r:Kv} {s:List UInt8} {u:Value} (hx:KV G x u) (hs:sW P h c t t' x s=some (h',c',r)):
 ∃ z w' G',(Builtin.append_ #[t,t'] ty #[u, .string ⟨s.toArray⟩]).run P w= .ok z w'/\HK F c' h' w' G'/\CP h G w h' G' w'/\KV G' r z/\Kp c G G'/\c<=c':=by
 have hM:maxLen=9223372036854775807:=rfl;unfold sW at hs;split at hs
 ·rename_i E hb IN;obtain⟨i,hu,hi,hz,Tr,hby⟩:=pe hb;have hu2:=B5 IN;split at hs
  ·cases hs
  ·rename_i m hm;have ahZ:(⟨s.toArray⟩:ByteArray).size =m+1:=by simp [ByteArray.size,hm]
   split at hs
   ·obtain⟨rfl,_⟩:=hx;split at hs
    ·rename_i hb;simp only [ble_eq]at hb;simp only [injEq,Prod.mk.injEq]at hs;obtain⟨rfl,rfl,rfl⟩:=hs;obtain⟨z',w',q1,q2,q3,q4⟩:=J7 (P:=P) (w:=w) t t' ty E i hu hu2 hi hz Tr hby (.slice none 0 0) 0 [] ⟨by simp, .inl ⟨rfl,rfl⟩⟩ ⟨s.toArray⟩ (by rw [ahZ];omega);rw [ahZ]at q2;obtain⟨G',k1,k2,k3,k4⟩:=hk.grown (E:=E) (N:=1) (h1:=h) (v:= .slice none 0 0) (k:=m+1) (jG s) (by omega) (by omega) (by simpa using q2) q3 q4 (by simp [Value.ownBlock]) (fun i d hi=>⟨hi,by simp [Value.ownBlock]⟩);exact⟨z',w',G',q1,k1,k2,k3,k4,by omega⟩
    ·cases hs
   ·rename_i id M off len rm;obtain⟨b,cp,o,g1,g2,g3,g4,g5,rfl⟩:=hx;split at hs
    ·rename_i E' N' es he;split at hs
     ·rename_i hb;simp only [and_eq_true,ble_eq]at hb;obtain⟨b1,b2,b3,b4,b7⟩:=hb;have b1:=eq_of_beq_eq_true b1;have b2:=eq_of_beq_eq_true b2;have b3:=eq_of_beq_eq_true b3;have b4:=eq_of_beq_eq_true b4;subst b1 b2 b3 b4;have ho:o=0:=by rw [g5 (.inr rfl)]
      subst ho;obtain⟨b',T,cur,fz,f0,k1,k2,k3,k4,k5⟩:=hk.ent id _ he;have f0:=f0 rfl;subst f0;simp only at k3 k4 k5;obtain⟨k5,_,k6⟩:=k5;obtain⟨cp',k6,k7,k8⟩:=k6 (by omega);rw [g1]at k1;injection k1 with k1;subst k1;rw [g2]at k6;injection k6 with k6;subst k6;subst k5;split at hs
      ·rename_i r0 hr0;obtain⟨e0,hes⟩:=aM hr0;subst e0;simp only [injEq,Prod.mk.injEq]at hs;obtain⟨rfl,rfl,rfl⟩:=hs;have aaT:=k4.take len;have agS:(cur.toList.take es.length).take len=cur.toList.take len:=by rw [take_take];congr 1;omega
       rw [agS]at aaT;have alH:=aaT.len;have z_:w.ownsRow 0 T 1 (.slice (some ⟨b,0,none⟩) len (cp - 0)) len (cur.toList.take len):=⟨by simp;omega, .inr ⟨b,cp,cur,rfl,Nat.zero_le _,k2,by omega,k8,k7,by simp⟩⟩;obtain⟨z',w',q1,q2,q3,q4⟩:=J7 (P:=P) (w:=w) t t' ty T i hu hu2 hi hz Tr hby _ len _ z_ ⟨s.toArray⟩ (by rw [ahZ];omega);rw [ahZ]at q2;obtain⟨G',t1,t2,t3,t4⟩:=hk.grown (E:=T) (N:=1) (h1:=h.put id none) (k:=len+(m+1)) (aaT.append (jG s)) (by omega) (by omega) q2 q3 q4 (fun b' hb'=>by
        simp only [Value.ownBlock,injEq]at hb';subst hb';exact⟨id,_,he,g1⟩) (fun i d hi=>by
        rw [Kt.get_put]at hi;by_cases e:i=id
        ·rw [if_pos e]at hi;cases hi
        ·rw [if_neg e]at hi;refine⟨hi,fun b' hb' e2=>?_⟩;simp only [Value.ownBlock,injEq]at e2;subst e2;exact e (hk.inj i id d _ b hi he hb' g1))
       exact⟨z',w',G',q1,t1,t2,t3,t4,by omega⟩
      ·cases hs
     ·cases hs
    ·cases hs
   ·cases hs
 ·cases hs
def sY:Nat->List Kc->Option (List UInt8)
 | 0,_=>some []
 | k+1, .i .u8 (.ofNat b)::r=>match Nat.blt b 256,sY k r with
   | true,some l=>some (UInt8.ofNat b::l)
   | _,_=>none
 | _,_=>none
theorem mJ {G:Kg}: ∀ {k:Nat} {cs:List Kc} {l:List UInt8} {vs:List Value},sY k cs=some l->KL G cs vs->l.length=k/\k<=cs.length/\ ∀ (j:Nat) (x:UInt8),l[j]? =some x->vs[j]? =some (Value.int .u8 x.toNat)
 | 0,cs,l,vs,h,_=>by simp only [sY,injEq]at h;subst h;simp
 | k+1,cs,l,vs,h,hr=>by
   unfold sY at h;split at h
   ·cases ‹k+1=0›
   ·rename_i b r e;split at h
    ·rename_i l' hb hl;injection h with h;subst h;obtain⟨v,r',rfl,h1,h2⟩:=hr;have ⟨a1,a2,a3⟩:=mJ hl h2;simp only [KC]at h1;subst h1;refine⟨by simp;omega,by simp;omega,fun j x hj=>?_⟩;cases j with
     | zero=>
       simp at hj;subst hj;simp only [blt_eq]at hb;simp;omega
     | succ j=>simpa using a3 j x (by simpa using hj)
    ·cases h
   ·cases h
def sZ (P:Program) (h:Kt Ke) (pt:TypeId) (x y:Kv):Option (Kt Ke×Kv):=match x,y,P.underlying pt with
 | .c (.p id 0), .c (.i .i64 (.ofNat (k+1))),some (.pointer e)=>match h.get id with
   | some ⟨some (E,1),cs,_⟩=>match Nat.beq E e&&(Nat.beq (P.cellsOf e) 1&&Nat.ble (k+1) 9223372036854775807)with
     | true=>match sY (k+1) cs with
       | some l=>some (h.put id (some ⟨some (E,1),cs,true⟩), .c (.s l))
       | none=>none
     | false=>none
   | _=>none
 | _,_,_=>none
theorem ta {F:KF} {c:Nat} {h h':Kt Ke} {w:World} (hk:HK F c h w G) {pt it ty:TypeId} {x y r:Kv} {u v:Value} (hx:KV G x u) (hy:KV G y v) (hs:sZ P h pt x y=some (h',r)):
 ∃ z w',(Builtin.unsafeString_ #[pt,it] ty #[u,v]).run P w= .ok z w'/\HK F c h' w' G/\CP h G w h' G w'/\KV G r z:=by
 unfold sZ at hs;split at hs
 ·rename_i id k e hpt;split at hs
  ·rename_i E cs ro he;split at hs
   ·rename_i hb;simp only [and_eq_true,ble_eq]at hb;obtain⟨b1,b2,b3⟩:=hb;have b1:=eq_of_beq_eq_true b1;have b2:=eq_of_beq_eq_true b2;subst b1;split at hs
    ·rename_i l hl;simp only [injEq,Prod.mk.injEq]at hs;obtain⟨rfl,rfl⟩:=hs;obtain⟨b,hb,rfl⟩:=hx;simp only [KV,KC]at hy;subst hy;obtain⟨b',T,cur,fz,_,k1,k2,k3,k4,k5⟩:=hk.ent id _ he;rw [hb]at k1;injection k1 with k1;subst k1;simp only at k3 k4 k5;obtain⟨k5,k5b,k6⟩:=k5;subst k5;obtain⟨a1,a2,a3⟩:=mJ hl k4;have h_:=run_unsafeString_row (P:=P) (w:=w) pt it ty T hpt b2 b cur.size (by simp [World.shape?,k2]) l (by intro e;subst e;simp at a1) (by omega) (by omega) (fun j x hj=>by
      have hj2:=(List.getElem?_eq_some_iff.1 hj).1;have h3:=a3 j x hj;rw [getElem?_take]at h3;split at h3
      ·rw [Addr.add_mid];simp only [World.cell?,k2,Nat.zero_add];simpa using h3
      ·cases h3)
     rw [a1]at h_;have hfz: ∃ fz',(w.freeze ⟨b,0,none⟩ (k+1)).heap[b]? =some (.cells cur T fz'):=by unfold World.freeze;rw [if_neg (by omega)];simp only [Array.getElem?_modify,if_pos,k2,map_some];exact⟨_,rfl⟩
     obtain⟨fz',hfz⟩:=hfz;have aol: ∀ k',k' ≠ b->(w.freeze ⟨b,0,none⟩ (k+1)).heap[k']? =w.heap[k']? :=fun k' hk'=>by unfold World.freeze;rw [if_neg (by omega)];simp only [Array.getElem?_modify];rw [if_neg (fun e=>hk' e.symm)]
     have Tr:(w.freeze ⟨b,0,none⟩ (k+1)).heap.size =w.heap.size:=by unfold World.freeze;rw [if_neg (by omega)];simp
     have aok:DD w (w.freeze ⟨b,0,none⟩ (k+1)):=by unfold World.freeze;rw [if_neg (by omega)];exact⟨rfl,rfl,rfl⟩
     obtain⟨t1,t2⟩:=hk.turn (h':=h.put id (some ⟨some (T,1),cs,true⟩)) (c':=c) (G':=G) (w':=w.freeze ⟨b,0,none⟩ (k+1)) (id:=id) (tb:=b) (ob:=b) aok (by omega) (fun k' _ n_ _=>aol k' n_) (.inr ⟨id,_,he,hb⟩) (.inr ⟨id,_,he,hb⟩) (Kg.le.refl G) hk.fr fun i d hi=>by
      rw [Kt.get_put]at hi;by_cases q:i=id
      ·rw [if_pos q]at hi;injection hi with hi;subst hi q;exact .inl ⟨rfl,⟨b,T,cur,fz',(fun(q:true=false)=>by cases q),hb,hfz,k3,k4,rfl,k5b,k6⟩,hb⟩
      ·rw [if_neg q]at hi;exact .inr ⟨q,hi,fun k' hk'=>have:k' ≠ b:=fun e2=>q (hk.inj i id d _ k' hi he hk' (by rw [hb,e2]));⟨this,this⟩⟩
     exact⟨_,_,h_,t1,t2,rfl⟩
    ·cases hs
   ·cases hs
  ·cases hs
 ·cases hs
end
end
end Go.PL
namespace Go.PL
open Go Go.RowKit
noncomputable section
abbrev KR:=Kt Kv×Kt Ke×Nat
abbrev SS:=Code->Nat->Kt Kv->Kt Ke->Nat->Option (Exit×Kt Kv×Kt Ke×Nat)
structure Qv (h:Kt Ke) (G:Kg) (w:World) (h':Kt Ke) (G':Kg) (w':World):Prop where
 le:G.le G'
 size:w.heap.size<=w'.heap.size
 frm: ∀ b,b<w.heap.size->(∀ i e,h.get i=some e->G.blk i ≠ some b)->w'.heap[b]? =w.heap[b]?
 own: ∀ i e b,h'.get i=some e->G'.blk i=some b->w.heap.size<=b\/ ∃ j d,h.get j=some d/\G.blk j=some b
 out:DD w w'
theorem CP.q {h h':Kt Ke} {G G':Kg} {w w':World} (a:CP h G w h' G' w'):Qv h G w h' G' w':=⟨a.le,a.size,a.frm,a.own,a.out⟩
theorem Qv.p {h h':Kt Ke} {G G':Kg} {w w':World} (a:Qv h G w h' G' w'):CP h G w h' (G'.dd G.df) w':=⟨⟨a.le.blk,a.le.cap⟩,a.size,a.frm,a.own,a.out,rfl⟩
theorem Qv.trans {h h1 h2:Kt Ke} {G G1 G2:Kg} {w w1 w2:World} (a:Qv h G w h1 G1 w1) (b:Qv h1 G1 w1 h2 G2 w2):Qv h G w h2 G2 w2 where
 le:=a.le.trans b.le
 size:=le_trans a.size b.size
 frm:=fun k hk hu=>by
  refine(b.frm k (lt_of_lt_of_le hk a.size) fun i e hi hb=>?_).trans (a.frm k hk hu);rcases a.own i e k hi hb with q | ⟨j,d,q1,q2⟩
  ·omega
  ·exact hu j d q1 q2
 own:=fun i e k hi hb=>by
  rcases b.own i e k hi hb with q | ⟨j,d,q1,q2⟩
  ·exact .inl (le_trans a.size q)
  ·exact a.own j d k q1 q2
 out:=OC a.out b.out
theorem Qv.poke {h h1:Kt Ke} {G G1:Kg} {w w1:World} (a:Qv h G w h1 G1 w1) {r:Nat} (o:Obj) (hr:w.heap.size<=r):Qv h G w h1 G1 (w1.putObj r o):=
 ⟨a.le,by simpa using a.size,fun b hb hu=>by rw [World.putObj_heap_other (by omega)];exact a.frm b hb hu,a.own,OC a.out ⟨rfl,rfl,rfl⟩⟩
theorem HK.poke {F:KF} {c:Nat} {h:Kt Ke} {w:World} {G:Kg} (hk:HK F c h w G) {r:Nat} (o:Obj) (hu: ∀ i e,h.get i=some e->G.blk i ≠ some r) (hr:F.w0.heap.size<=r) (hy: ∀ q∈F.Y,G.blk q.1 ≠ some r):HK F c h (w.putObj r o) G:=
 ⟨fun i e hi=>WY.mono (Kg.le.refl G) (fun b hb=>World.putObj_heap_other (fun q=>hu i e hi (by rw [hb,q]))) (hk.ent i e hi),hk.inj,hk.new,hk.fr,hk.inv,OC hk.out ⟨rfl,rfl,rfl⟩,by simpa using hk.hsize,fun b hb=>by rw [World.putObj_heap_other (by omega)];exact hk.ext b hb,fun q hq=>have ⟨l,r',h1,h2,h3,h4⟩:=hk.rcs q hq;⟨l,r',h1,h2,by rw [World.putObj_heap_other (fun e=>hy q hq (by rw [h1,e]))];exact h3,h4⟩⟩
theorem HK.noY {F:KF} {c:Nat} {h:Kt Ke} {w:World} {G:Kg} (hk:HK F c h w G) {r:Nat} {o:Obj} (hr:w.heap[r]? =some o) (ho: ∀ x,o ≠ .loop x): ∀ q∈F.Y,G.blk q.1 ≠ some r:=fun q hq e=>by obtain⟨l,r',h1,_,h3,_⟩:=hk.rcs q hq;rw [e]at h1;injection h1 with h1;subst h1;rw [hr]at h3;injection h3 with h3;exact ho _ h3
theorem HK.dd {F:KF} {c:Nat} {h:Kt Ke} {w:World} {G:Kg} (hk:HK F c h w G) (ds:List Deferred):HK F c h w (G.dd ds):=
 ⟨fun i e hi=>WY.mono (G.le_dd ds) (fun _ _=>rfl) (hk.ent i e hi),hk.inj,hk.new,hk.fr,hk.inv,hk.out,hk.hsize,hk.ext,fun q hq=>have ⟨l,r,h1,h2,h3,h4,h5,h6,h7,h8,h9,h10,h11⟩:=hk.rcs q hq;⟨l,r,h1,h2,h3,h4,h5,h6,h7,h8,h9,h10,fun i=>(h11 i).mono (G.le_dd ds)⟩⟩
def fa (r:Nat):Deferred:={target:= .collected r,args:= #[]}
def KMk (h':Kt Ke) (w:World) (G:Kg) (w':World) (G':Kg):Prop:= ∃ rs:List Nat,rs.Nodup/\G'.df=rs.map fa++G.df/\ ∀ r∈rs,w.heap.size<=r/\r<w'.heap.size/\w'.heap[r]? =some (.deferred (some []))/\ ∀ i e,h'.get i=some e->G'.blk i ≠ some r
structure pg (F:KF) (n:Nat) (h:Kt Ke) (c:Nat) (G:Kg) (w:World) (L_:Kt Kv) (h':Kt Ke) (c':Nat) (a':Act) (w':World) (G':Kg):Prop where
 hk:HK F c' h' w' G'
 sk:SK n L_ a' G'
 st:Qv h G w h' G' w'
 kp:Kp c G G'
 le:c<=c'
 mkd:KMk h' w G w' G'
theorem pg.of {F:KF} {n:Nat} {h h':Kt Ke} {c c':Nat} {G G':Kg} {w w':World} {L_:Kt Kv} {a':Act} (hk:HK F c' h' w' G') (sk:SK n L_ a' G') (st:CP h G w h' G' w') (kp:Kp c G G') (le:c<=c'):pg F n h c G w L_ h' c' a' w' G':=
 ⟨hk,sk,st.q,kp,le,[],by simp,by simp [st.df],by simp⟩
theorem pg.trans {F:KF} {n m:Nat} {h h1 h2:Kt Ke} {c c1 c2:Nat} {G G1 G2:Kg} {w w1 w2:World} {tm1 tm2:Kt Kv} {a1 a2:Act} (x:pg F n h c G w tm1 h1 c1 a1 w1 G1) (y:pg F m h1 c1 G1 w1 tm2 h2 c2 a2 w2 G2):pg F m h c G w tm2 h2 c2 a2 w2 G2:=
 ⟨y.hk,y.sk,x.st.trans y.st,x.kp.trans y.kp x.le,le_trans x.le y.le,by
  obtain⟨r1,n1,d1,p1⟩:=x.mkd;obtain⟨r2,n2,d2,p2⟩:=y.mkd;refine⟨r2++r1,?_,by rw [d2,d1];simp,fun r hr=>?_⟩
  ·refine List.nodup_append.2 ⟨n2,n1,fun a ha b hb e=>?_⟩;have:=(p2 a ha).1;have:=(p1 b hb).2.1;omega
  ·rcases List.mem_append.1 hr with q | q
   ·obtain⟨a1,a2,a3,a4⟩:=p2 r q;exact⟨le_trans x.st.size a1,a2,a3,a4⟩
   ·obtain⟨a1,a2,a3,a4⟩:=p1 r q;refine⟨a1,lt_of_lt_of_le a2 y.st.size,(y.st.frm r a2 a4).trans a3,fun i e hi hb=>?_⟩;rcases y.st.own i e r hi hb with z | ⟨j,d,z1,z2⟩
    ·omega
    ·exact a4 j d z1 z2⟩
def Is (P:Program) (I:World->Prop) (Y:aP) (code:Code) (n:Nat) (tm:Kt Kv) (h:Kt Ke) (c:Nat) (e:Exit) (L_:Kt Kv) (h':Kt Ke) (c':Nat):Prop:=
 ∀ (F:KF) (a:Act) (w:World) (G:Kg),F.I=I->F.Y=Y->HK F c h w G->SK n tm a G->code.wp P (fun e' a' w'=>e'=e/\ ∃ G',pg F n h c G w L_ h' c' a' w' G') a w
def Kx (P:Program) (I:World->Prop) (Y:aP) (rec:SS):Prop:= ∀ code n tm h c e L_ h' c',rec code n tm h c=some (e,L_,h',c')->Is P I Y code n tm h c e L_ h' c'
def kfn (P:Program) (f:FuncId):Option (Func×Code):=match ent P f with
 | true=>match P.funcs[f]? with
   | some fn=>match fn.body with
     | some b=>some (fn,b)
     | none=>none
   | none=>none
 | false=>none
theorem AaH {P:Program} {f:FuncId} {fn:Func} {b:Code} (h:kfn P f=some (fn,b)):ent P f=true/\P.funcs[f]? =some fn/\fn.body=some b:=by
 unfold kfn at h;split at h
 ·rename_i he;split at h
  ·rename_i g hg;split at h
   ·rename_i b' hb;simp only [injEq,Prod.mk.injEq]at h;obtain⟨rfl,rfl⟩:=h;exact⟨he,hg,hb⟩
   ·cases h
  ·cases h
 ·cases h
def YJ:Nat->List Kv->Kt Kv->Kt Kv
 | _,[],t=>t
 | i,v::vs,t=>YJ (i+1) vs (t.put i (some v))
theorem fb: ∀ (vs:List Kv) (i:Nat) (t:Kt Kv) (j:Nat),gt (YJ i vs t) j=if i<=j/\j<i+vs.length then vs.getD (j - i) .u else gt t j
 | [],i,t,j=>by simp [YJ];omega
 | v::vs,i,t,j=>by
   simp only [YJ];rw [fb vs (i+1)];simp only [length_cons];by_cases h1:i+1<=j/\j<i+1+vs.length
   ·rw [if_pos h1,if_pos (by omega),show j - i=(j - (i+1))+1 by omega];simp
   ·rw [if_neg h1];by_cases h2:j=i
    ·subst h2;simp [gt,Kt.get_put]
    ·rw [if_neg (by omega)];simp [gt,Kt.get_put,h2]
def fe (P:Program) (tm:Kt Kv) (h:Kt Ke):ResultVar->Option Kv
 | .tmp t=>some (gt tm t)
 | .cell t T=>match FW P T,gt tm t with
   | some (ag,n), .c (.p id off)=>match h.get id with
     | some e=>OD ag off n e.cs
     | none=>none
   | _,_=>none
def RK (P:Program) (tm:Kt Kv) (h:Kt Ke):List ResultVar->Option (List Kv)
 | []=>some []
 | x::xs=>match fe P tm h x,RK P tm h xs with
   | some v,some vs=>some (v::vs)
   | _,_=>none
def ph (P:Program) (tm:Kt Kv) (h:Kt Ke) (xs:List ResultVar):Option Kv:=match xs with
 | [x]=>fe P tm h x
 | xs=>match RK P tm h xs with
   | some vs=>some (.t vs)
   | none=>none
section
variable {P:Program} {G:Kg} {F:KF} {c n:Nat} {h:Kt Ke} {w:World} {tm:Kt Kv} {a:Act}
theorem ff (hk:HK F c h w G) (I_:SK n tm a G) {x:ResultVar} {v:Kv} (hs:fe P tm h x=some v): ∃ u,(EU a.tmps x).run P w= .ok u w/\KV G v u:=by
 cases x with
 | tmp t=>simp only [fe]at hs;injection hs with hs;subst hs;exact⟨_,rfl,I_.sl t⟩
 | cell t T=>
   simp only [fe]at hs;split at hs
   ·rename_i ag m id off ht hp;have hx:=I_.sl t;rw [hp]at hx;obtain⟨b,hb,hv⟩:=hx;split at hs
    ·rename_i d hd;obtain⟨b',T',cur,fz,_,h1,h2,h3,h4,_⟩:=hk.ent id d hd;rw [hb]at h1;injection h1 with h1;subst h1;obtain⟨u,q1,q2⟩:=Ir (P:=P) ht h2 h4 h3 hs;refine⟨u,?_,q1⟩;simp only [Instr.loadAt,Instr.sureAddr]at q2;simp_all [EU,asAddr]
    ·cases hs
   ·cases hs
theorem fg (hk:HK F c h w G) (I_:SK n tm a G): ∀ {xs:List ResultVar} {vs:List Kv},RK P tm h xs=some vs-> ∃ us,(xs.mapM (EU a.tmps)).run P w= .ok us w/\Iq G vs us
 | [],vs,hs=>by simp only [RK]at hs;injection hs with hs;subst hs;exact⟨[],by simp,rfl⟩
 | x::xs,vs,hs=>by
   simp only [RK]at hs;split at hs
   ·rename_i v vs' h1 h2;injection hs with hs;subst hs;obtain⟨u,q1,q2⟩:=ff hk I_ h1;obtain⟨us,k1,k2⟩:=fg hk I_ h2;exact⟨u::us,by simp_all,⟨u,us,rfl,q2,k2⟩⟩
   ·cases hs
theorem YK: ∀ {xs:List ResultVar} {vs:List Kv},RK P tm h xs=some vs->vs.length=xs.length
 | [],vs,hs=>by simp only [RK]at hs;injection hs with hs;subst hs;rfl
 | x::xs,vs,hs=>by
   simp only [RK]at hs;split at hs
   ·rename_i v vs' h1 h2;injection hs with hs;subst hs;simp [YK h2]
   ·cases hs
theorem wX (hk:HK F c h w G) (I_:SK n tm a G) {fn:Func} {v:Kv} (hs:ph P tm h fn.results.toList=some v): ∃ u,(results fn a.tmps).run P w= .ok u w/\KV G v u:=by
 unfold ph at hs;split at hs
 ·rename_i x hx;obtain⟨u,q1,q2⟩:=ff hk I_ hs;exact⟨u,by simp_all [Da (P:=P) (w:=w) (fn:=fn) (tmps:=a.tmps) (vs:=[u])],q2⟩
 ·rename_i xs n_;split at hs
  ·rename_i vs hv;injection hs with hs;subst hs;obtain⟨us,q1,q2⟩:=fg hk I_ hv;have hl:=q2.len;rw [YK hv]at hl;refine⟨.tuple us.toArray,?_,⟨us.toArray,rfl,by simpa using q2⟩⟩;rw [Da (P:=P) (w:=w) (fn:=fn) (tmps:=a.tmps) q1]
   match hus:us with
   | []=>rfl
   | [v]=>
     exfalso
     match hr:fn.results.toList,hl with
     | [x],_=>exact n_ x hr
   | v::u::vs=>rfl
  ·cases hs
end
abbrev KSp:=Kt Ke->Nat->List Kv->Option (Kv×Kt Ke×Nat)
abbrev KX:=List (FuncId×KSp)
def fh:Kv->Option V
 | .c (.i k n)=>some (.c (.int k n))
 | .c (.b x)=>some (.c (.bool x))
 | .c (.s s)=>some (.c (.str s))
 | _=>none
def Vz:List Kv->Option (List V)
 | []=>some []
 | v::vs=>match fh v,Vz vs with
   | some x,some xs=>some (x::xs)
   | _,_=>none
def kx:KX->FuncId->Option KSp
 | [],_=>none
 | (g,v)::r,f=>match Nat.beq g f with
   | true=>some v
   | false=>kx r f
theorem jH: ∀ {X:KX} {f:FuncId} {v:KSp},kx X f=some v->(f,v)∈X
 | [],_,_,h=>by cases h
 | (g,u)::r,f,v,h=>by
   simp only [kx]at h;split at h
   ·rename_i hb;have:=eq_of_beq_eq_true hb;injection h with h;subst h this;simp
   ·exact List.mem_cons_of_mem _ (jH h)
theorem fj {G:Kg} {w:World} {H:Ax} {v:Kv} {x:V} {u:Value} (h:fh v=some x):KV G v u↔Aa w H x u:=by
 unfold fh at h;split at h<;>first
  | (injection h with h;subst h;simp only [KV,KC,Aa,Ab])
  | cases h
def td (P:Program) (X:KX) (rec:SS) (h:Kt Ke) (c:Nat) (f:FuncId) (args:List Kv):Option (Kv×Kt Ke×Nat):=match kx X f with
 | some g=>g h c args
 | none=>match kfn P f with
   | some (fn,b)=>match Nat.ble args.length fn.ntmps with
     | true=>match rec b fn.ntmps (YJ 0 args .lf) h c with
       | some (e,L_,h',c')=>match e with
         | .normal =>match ph P L_ h' fn.results.toList with
           | some v=>some (v,h',c')
           | none=>none
         | .ret =>match ph P L_ h' fn.results.toList with
           | some v=>some (v,h',c')
           | none=>none
         | _=>none
       | none=>none
     | false=>none
   | none=>none
def Lp (F:KF) (h:Kt Ke) (c:Nat) (G:Kg) (w:World) (v:Kv) (h':Kt Ke) (c':Nat) (u:Value) (w':World):Prop:=
 ∃ G',HK F c' h' w' G'/\CP h G w h' G' w'/\KV G' v u/\Kp c G G'/\c<=c'
def AcR (P:Program) (I:World->Prop) (f:FuncId) (g:KSp):Prop:=ent P f=true/\ ∀ (F:KF) (h:Kt Ke) (c:Nat) (w:World) (G:Kg) (args:List Kv) (us:Array Value) (v:Kv) (h':Kt Ke) (c':Nat),F.I=I->HK F c h w G->Iq G args us.toList->g h c args=some (v,h',c')->
 Calls P f us w (fun e w'=> ∃ u,e= .returned u/\Lp F h c G w v h' c' u w')
def Qw (P:Program) (I:World->Prop) (X:KX):Prop:= ∀ f g,(f,g)∈X->AcR P I f g
section
variable {P:Program} {G:Kg} {F:KF} {c c' n:Nat} {h h':Kt Ke} {w:World} {X:KX} {rec:SS}
theorem pi (hk:HK F c h w G) {w':World} (hb:Below w.heap.size w w'):HK F c h w' G/\CP h G w h G w':=by
 have ho:=Co hb;have hs:=Cx hb;have:=hk.turn (h':=h) (c':=c) (G':=G) (w':=w') (id:=c) (tb:=w.heap.size) (ob:=w.heap.size) ho hs.size (fun b hb _ _=>hs.block b hb) (.inl (le_refl _)) (.inl (le_refl _)) (Kg.le.refl G) hk.fr fun i e hi=>by
  by_cases q:i=c
  ·subst q;obtain⟨b,_,_,_,_,h1,_⟩:=hk.ent i e hi;have:=(hk.fr i (le_refl _)).1;rw [this]at h1;cases h1
  ·exact .inr ⟨q,hi,fun b hb=>by have:=hk.lt hi hb;omega⟩
 exact this
theorem tf {fn:Func} {tm:Kt Kv} {v:Kv} {tmps:Array Value} (hv:ph P tm h' fn.results.toList=some v) (hc:c<=c') (hw0:F.w0.heap.size<=w.heap.size): ∀ (rs:List Nat) (w':World) (G':Kg),HK F c' h' w' G'->(∀ i,KV G' (gt tm i) (tmps.getD i Go.undef))->rs.Nodup->
 (∀ r∈rs,w.heap.size<=r/\r<w'.heap.size/\w'.heap[r]? =some (.deferred (some []))/\ ∀ i e,h'.get i=some e->G'.blk i ≠ some r)->Qv h G w h' G' w'->Kp c G G'->LeavesInM Fence.wide 0 P fn tmps (fun e w'=> ∃ u,e= .returned u/\Lp F h c G w v h' c' u w') (rs.map fa) .returning w'
 | [],w',G',hk,hs,_,_,IN,hkp=>by obtain⟨u,q1,q2⟩:=wX (a:=⟨tmps,G'.df⟩) hk ⟨rfl,rfl,hs⟩ hv;exact⟨u,q1,u,rfl,G'.dd G.df,hk.dd _,IN.p,q2.mono (G'.le_dd _),hkp,hc⟩
 | r::rs,w',G',hk,hs,hn,hr,IN,hkp=>by
   obtain⟨a1,a2,a3,a4⟩:=hr r (by simp);refine⟨by simp, .inl ⟨r,_,rfl,run_takeDeferred a3,?_⟩⟩;have hn2:=nodup_cons.1 hn;refine tf hv hc hw0 rs _ G' (hk.poke _ a4 (le_trans hw0 a1) (hk.noY a3 (fun _ e=>by cases e))) hs hn2.2 (fun r' hr'=>?_) (IN.poke _ a1) hkp;obtain⟨b1,b2,b3,b4⟩:=hr r' (by simp [hr']);exact⟨b1,by simpa using b2,by
    have n_:r' ≠ r:=fun e=>by subst e;exact hn2.1 hr'
    rw [World.putObj_heap_other n_];exact b3,b4⟩
theorem aR (hX:Qw P F.I X) (o_:Kx P F.I F.Y rec) (hk:HK F c h w G) {f:FuncId} {args:List Kv} {us:Array Value} {v:Kv} (ha:Iq G args us.toList) (hs:td P X rec h c f args=some (v,h',c')):
 ent P f=true/\Calls P f us w (fun e w'=> ∃ u,e= .returned u/\Lp F h c G w v h' c' u w'):=by
 unfold td at hs;split at hs
 ·rename_i g hg;exact⟨(hX f g (jH hg)).1,(hX f g (jH hg)).2 F h c w G args us v h' c' rfl hk ha hs⟩
 ·split at hs
  ·rename_i fn b hf;obtain⟨f1,f2,f3⟩:=AaH hf;refine⟨f1,?_⟩;split at hs
   ·rename_i hl;have hl:args.length<=fn.ntmps:=by simpa using hl
    split at hs
    ·rename_i e L_ h2 c2 hr;refine callsIn_wide.1 (callsIn_of_wp_marks (F:=Fence.wide) (n:=0) f2 f3 trivial (wpIn_wide.2 ?_));have hal:=ha.len;have I_:SK fn.ntmps (YJ 0 args .lf) {tmps:=us++Array.replicate (fn.ntmps - us.size) Go.undef,defers:=[]} (G.dd []):=by
      refine⟨rfl,by simp at hal ⊢;omega,fun i=>?_⟩;rw [fb];by_cases q:0<=i/\i<0+args.length
      ·rw [if_pos q];simp only [Nat.sub_zero];have hi:i<args.length:=by omega
       obtain⟨u,q1,q2⟩:=ha.get (i:=i) (c:=args[i]) (by simp [hi]);have q3:us[i]? =some u:=by simpa using q1
       rw [List.getD_eq_getElem?_getD,List.getElem?_eq_getElem hi];simp only [Option.getD_some,getD_eq_getD_getElem?,Array.getElem?_append];have:i<us.size:=by simp at hal;omega
       rw [if_pos this,q3];exact q2.mono (G.le_dd [])
      ·rw [if_neg q];simp [gt,Kt.get_lf,KV]
     refine Code.wp_mono (fun e' a' w' ⟨q,G',hT⟩=>?_) (o_ b fn.ntmps _ h c e L_ h2 c2 hr F _ w (G.dd []) rfl rfl (hk.dd []) I_);subst q;have fin:(match ph P L_ h2 fn.results.toList with | some v=>some (v,h2,c2) | none=>none)=some (v,h',c')->
      LeavesInM Fence.wide 0 P fn a'.tmps (fun e w'=> ∃ u,e= .returned u/\Lp F h c G w v h' c' u w') a'.defers .returning w':=fun q=>by
      split at q
      ·rename_i v' hv;simp only [injEq,Prod.mk.injEq]at q;obtain⟨rfl,rfl,rfl⟩:=q;obtain⟨rs,m1,m2,m3⟩:=hT.mkd;rw [hT.sk.dfr,m2];simp only [Kg.dd,List.append_nil];have IN:Qv h G w h2 G' w':=⟨⟨hT.st.le.blk,hT.st.le.cap⟩,hT.st.size,hT.st.frm,hT.st.own,hT.st.out⟩;exact tf hv hT.le hk.hsize rs w' G' hT.hk hT.sk.sl m1 m3 IN hT.kp
      ·cases q
     cases e'<;>simp only at hs<;>first
      | exact fin hs
      | cases hs
    ·cases hs
   ·cases hs
  ·cases hs
end
end
end Go.PL
namespace Go.PL
open Go Go.RowKit
noncomputable section
def RL (P:Program) (tm:Kt Kv) (h:Kt Ke) (c:Nat) (op:Op):Option (Kv×Kt Ke×Nat):=match kmk P tm op c with
 | some (e,v)=>some (v,h.put c (some e),c+1)
 | none=>none
def RM (h:Kt Ke) (c:Nat):Option Kv->Option (Kv×Kt Ke×Nat)
 | some v=>some (v,h,c)
 | none=>none
def VA (P:Program) (X:KX) (gs:List (Nat×List Kc)) (rec:SS) (tm:Kt Kv) (h:Kt Ke) (c:Nat) (op:Op):Option (Kv×Kt Ke×Nat):=match op with
 | .load t x=>RM h c (kld P gs h tm (.load t x))
 | .alloc T=>RL P tm h c (.alloc T)
 | .box T x=>RL P tm h c (.box T x)
 | .buildSlice t l ps=>RL P tm h c (.buildSlice t l ps)
 | .makeSlice t l k=>RL P tm h c (.makeSlice t l k)
 | .convert s d x=>match Vx P tm (.convert s d x)with
   | some v=>some (v,h,c)
   | none=>RL P tm h c (.convert s d x)
 | .store T x y=>match jF P h T (Fa tm x) (Fa tm y)with
   | some h'=>some (.sk,h',c)
   | none=>none
 | .call cl=>match cl.callee with
   | .value x=>match Fa tm x with
     | .c (.f f fi ca)=>td P X rec h c f (fi.map Kv.c++(cl.args.toList.map (Fa tm)++ca.map Kv.c))
     | _=>none
   | .builtin .append =>match cl.args.toList,cl.argTypes.toList with
     | [x,y],[t,t']=>match Nat.beq t t' with
       | true=>match AaE P h c t (Fa tm x) (Fa tm y)with
         | some (h',c',v)=>some (v,h',c')
         | none=>none
       | false=>match Fa tm y with
         | .c (.s s)=>match sW P h c t t' (Fa tm x) s with
           | some (h',c',v)=>some (v,h',c')
           | none=>none
         | _=>none
     | _,_=>none
   | .builtin .unsafeString =>match cl.args.toList,cl.argTypes.toList with
     | [x,y],[t,_]=>match sZ P h t (Fa tm x) (Fa tm y)with
       | some (h',v)=>some (v,h',c)
       | none=>none
     | _,_=>none
   | .builtin .clear =>match cl.args.toList,cl.argTypes.toList with
     | [x],[t]=>match AaF P h t (Fa tm x)with
       | some h'=>some (.t [],h',c)
       | none=>none
     | _,_=>none
   | .builtin _=>RM h c (Vx P tm (.call cl))
   | _=>none
 | op=>RM h c (Vx P tm op)
section
variable {P:Program} {G:Kg} {F:KF} {c c' n:Nat} {h h':Kt Ke} {w:World} {X:KX} {gs:List (Nat×List Kc)} {rec:SS} {tm:Kt Kv} {a:Act}
theorem th (hk:HK F c h w G) (I_:SK n tm a G) {o:Oper} {v:Kv} {Q:Exit->Act->World->Prop} (hs:RM h c (Vx P tm o.op)=some (v,h',c')):o.wp P a w (fun a' w'=> ∃ u,a'=a.put o.dst u/\Lp F h c G w v h' c' u w') Q:=by
 unfold RM at hs;split at hs
 ·rename_i v' hv;simp only [injEq,Prod.mk.injEq]at hs;obtain⟨rfl,rfl,rfl⟩:=hs;obtain⟨u,q1,q2⟩:=mG I_ hv;exact Au (q2 w) ⟨u,rfl,G,hk,CP.refl h G w,q1,Kp.refl c G,le_refl _⟩
 ·cases hs
theorem tj (hk:HK F c h w G) (I_:SK n tm a G) {o:Oper} {v:Kv} {Q:Exit->Act->World->Prop} (hs:RL P tm h c o.op=some (v,h',c')):o.wp P a w (fun a' w'=> ∃ u,a'=a.put o.dst u/\Lp F h c G w v h' c' u w') Q:=by
 unfold RL at hs;split at hs
 ·rename_i e v' hv;simp only [injEq,Prod.mk.injEq]at hs;obtain⟨rfl,rfl,rfl⟩:=hs;have hun:=hk.fr c (le_refl c);have hh:h.get c=none:=by
   cases hg:h.get c with
   | none=>rfl
   | some d=>
     obtain⟨b,_,_,_,_,h1,_⟩:=hk.ent c d hg;rw [hun.1]at h1;cases h1
  obtain⟨u,w',G',q1,q2,q3,q4,q5,_⟩:=sV hk I_ (c':=c+1) (Nat.lt_succ_self c) (Nat.le_succ c) hun hh hv;exact Au q1 ⟨u,rfl,G',q2,q3,q4,fun i hi=>q5 i (by omega),by omega⟩
 ·cases hs
theorem jI (I_:SK n tm a G) {cl:Call} {x:Operand} {f:FuncId} {fi ca:List Kc} (hx:Fa tm x= .c (.f f fi ca)):
 ∃ xs ys:Array Value,a.eval x= .func (.func f) xs ys/\Iq G (fi.map Kv.c++(cl.args.toList.map (Fa tm)++ca.map Kv.c)) (xs++cl.args.map a.eval++ys).toList :=by
 have h1:=I_.ev x;rw [hx]at h1;obtain⟨xs,ys,e,k1,k2⟩:=h1;refine⟨xs,ys,e,?_⟩;have:=(Iq.ofL k1).append ((I_.evs cl.args.toList).append (Iq.ofL k2));simpa using this
theorem fk (hX:Qw P F.I X) (hgt:Sc F.I gs) (o_:Kx P F.I F.Y rec) (hk:HK F c h w G) (I_:SK n tm a G) {o:Oper} {v:Kv} {Q:Exit->Act->World->Prop} (hs:VA P X gs rec tm h c o.op=some (v,h',c')):
 o.wp P a w (fun a' w'=> ∃ u,a'=a.put o.dst u/\Lp F h c G w v h' c' u w') Q:=by
 have base:RM h c (Vx P tm o.op)=some (v,h',c')->o.wp P a w (fun a' w'=> ∃ u,a'=a.put o.dst u/\Lp F h c G w v h' c' u w') Q:=th hk I_;have mk:RL P tm h c o.op=some (v,h',c')->o.wp P a w (fun a' w'=> ∃ u,a'=a.put o.dst u/\Lp F h c G w v h' c' u w') Q:=tj hk I_;unfold VA at hs;split at hs
 ·rename_i t x ho;rw [<-ho]at hs;unfold RM at hs;split at hs
  ·rename_i v' hv;simp only [injEq,Prod.mk.injEq]at hs;obtain⟨rfl,rfl,rfl⟩:=hs;obtain⟨u,q1,q2⟩:=sU hgt hk I_ hv;exact Au q2 ⟨u,rfl,G,hk,CP.refl h G w,q1,Kp.refl c G,le_refl _⟩
  ·cases hs
 ·rename_i ho;rw [<-ho]at hs;exact mk hs
 ·rename_i ho;rw [<-ho]at hs;exact mk hs
 ·rename_i ho;rw [<-ho]at hs;exact mk hs
 ·rename_i ho;rw [<-ho]at hs;exact mk hs
 ·rename_i s d x ho;rw [<-ho]at hs;split at hs
  ·rename_i v' hv;refine base ?_;rw [hv];exact hs
  ·exact mk hs
 ·rename_i T x y ho;split at hs
  ·rename_i h2 IN;simp only [injEq,Prod.mk.injEq]at hs;obtain⟨rfl,rfl,rfl⟩:=hs;obtain⟨w',q1,q2,q3⟩:=o9 (P:=P) hk (I_.ev x) (I_.ev y) IN;have h_:(execOp a.eval o).run P w= .ok .skip w':=by simp [execOp,ho,q1]
   unfold Oper.wp;rw [h_];exact⟨_,rfl,G,q2,q3,rfl,Kp.refl c G,le_refl _⟩
  ·cases hs
 ·rename_i cl ho;split at hs
  ·rename_i x aaD;split at hs
   ·rename_i f fi ca hx;obtain⟨xs,ys,e1,e2⟩:=jI (cl:=cl) I_ hx;obtain⟨f1,f2⟩:=aR hX o_ hk e2 hs;have h_:(execOp a.eval o).run P w= .ok (.enter f (xs++cl.args.map a.eval++ys)) w:=by grind [execOp,resolve,Deferred.ofValue,invoke,Tv]
    unfold Oper.wp Oper.upon;rw [h_];refine f2.mono fun e w' ⟨u,he,hb⟩=>?_;subst he;exact⟨u,rfl,hb⟩
   ·cases hs
  ·rename_i aaD;split at hs
   ·rename_i x y t t' hxs hts;split at hs
    ·rename_i ht;have ht:=eq_of_beq_eq_true ht;subst ht;split at hs
     ·rename_i h2 c2 v2 ha;simp only [injEq,Prod.mk.injEq]at hs;obtain⟨rfl,rfl,rfl⟩:=hs;have ea:cl.args= #[x,y]:=by grind
      have et:cl.argTypes= #[t,t]:=by grind
      obtain⟨z,w',G',q1,q2,q3,q4,q5,q6⟩:=wV (P:=P) (ty:=o.type) hk (I_.ev x) (I_.ev y) ha;exact Au (by simp_all [execOp,resolve,invoke,builtin]) ⟨z,rfl,G',q2,q3,q4,q5,q6⟩
     ·cases hs
    ·split at hs
     ·rename_i s hy;split at hs
      ·rename_i h2 c2 v2 ha;simp only [injEq,Prod.mk.injEq]at hs;obtain⟨rfl,rfl,rfl⟩:=hs;have ea:cl.args= #[x,y]:=by grind
       have et:cl.argTypes= #[t,t']:=by grind
       have hy':=I_.ev y;rw [hy]at hy';simp only [KV,KC]at hy';obtain⟨z,w',G',q1,q2,q3,q4,q5,q6⟩:=sX (P:=P) (ty:=o.type) hk (I_.ev x) ha;rw [<-hy']at q1;exact Au (by simp_all [execOp,resolve,invoke,builtin]) ⟨z,rfl,G',q2,q3,q4,q5,q6⟩
      ·cases hs
     ·cases hs
   ·cases hs
  ·rename_i aaD;split at hs
   ·rename_i x y t t' hxs hts;split at hs
    ·rename_i h2 v2 ha;simp only [injEq,Prod.mk.injEq]at hs;obtain⟨rfl,rfl,rfl⟩:=hs;have ea:cl.args= #[x,y]:=by grind
     have et:cl.argTypes= #[t,t']:=by grind
     obtain⟨z,w',q1,q2,q3,q4⟩:=ta (P:=P) (it:=t') (ty:=o.type) hk (I_.ev x) (I_.ev y) ha;exact Au (by simp_all [execOp,resolve,invoke,builtin]) ⟨z,rfl,G,q2,q3,q4,Kp.refl c G,le_refl _⟩
    ·cases hs
   ·cases hs
  ·rename_i aaD;split at hs
   ·rename_i x t hxs hts;split at hs
    ·rename_i h2 ha;simp only [injEq,Prod.mk.injEq]at hs;obtain⟨rfl,rfl,rfl⟩:=hs;have ea:cl.args= #[x]:=by grind
     have et:cl.argTypes= #[t]:=by grind
     obtain⟨w',q1,q2,q3⟩:=wW (P:=P) (ty:=o.type) hk (I_.ev x) ha;exact Au (by simp_all [execOp,resolve,invoke,builtin]) ⟨_,rfl,G,q2,q3,⟨#[],rfl,rfl⟩,Kp.refl c G,le_refl _⟩
    ·cases hs
   ·cases hs
  ·rename_i ho';rw [<-ho]at hs;exact base hs
  ·cases hs
 ·exact base hs
def kgd (tm:Kt Kv) (ops:Array Oper) (o:Oper):Option Bool:=match o.guard with
 | none=>some true
 | some (j,want)=>match ops[j]? with
   | some p=>match p.dst with
     | some t=>match gt tm t with
       | .c (.b q)=>some (q==want)
       | .sk =>some false
       | _=>none
     | none=>none
   | none=>none
theorem jJ {ops:Array Oper} {o:Oper} {g:Bool} (I_:SK n tm a G) (hs:kgd tm ops o=some g):Region.wanted o (yielded ops a.tmps)=g:=by
 unfold kgd at hs;split at hs
 ·rename_i hg;injection hs with hs;subst hs;exact C9 hg _
 ·rename_i j want hg;split at hs
  ·rename_i p hp;split at hs
   ·rename_i t ht;have hv:=I_.sl t;split at hs
    ·rename_i q hq;injection hs with hs;subst hs;rw [hq]at hv;simp only [KV,KC]at hv;have:a.tmps[t]? =some (.bool q):=by
      rw [getD_eq_getD_getElem?]at hv;cases hx:a.tmps[t]? with
      | none=>rw [hx]at hv;simp [Go.undef]at hv
      | some y=>rw [hx]at hv;simp at hv;rw [hv]
     simp [Region.wanted,hg,yielded,hp,ht,this]
    ·rename_i hq;injection hs with hs;subst hs;rw [hq]at hv;simp only [KV]at hv;have: ∀ q,a.tmps[t]? ≠ some (.bool q):=fun q hx=>by rw [getD_eq_getD_getElem?,hx]at hv;simp [Go.undef]at hv
     have h2:yielded ops a.tmps j=none:=by unfold yielded;simp only [hp,ht,Option.bind_some]
     simp [Region.wanted,hg,h2]
    ·cases hs
   ·cases hs
  ·cases hs
def uT (o:Option Nat):Fence:={Fence.wide with round:=o}
theorem pj {o:Option Nat} {m:Nat} {f:FuncId} {args:Array Value} {R:Ending->World->Prop} (hc:Calls P f args w R):CallsIn (uT o) m P f args w R:=(callsIn_wide (n:=m)).2 hc
theorem Oper.wp_kfe {o:Option Nat} {op:Oper} {K:Act->World->Prop} {Q:Exit->Act->World->Prop} (hd: ∀ cl,op.op ≠ .defer cl) (hw:op.wp P a w K Q):op.wpIn (uT o) 0 P a w K Q:=by
 refine⟨fun _ _=>trivial,?_⟩;rw [Oper.semAt_eq _ _ _ hd];unfold Oper.wp at hw;generalize (execOp a.eval op).run P w=r at hw;cases r with
 | ok v w'=>
   cases v<;>first
    | exact hw
    | exact hw.elim
    | exact⟨fun e=>by simp [uT,Fence.wide]at e,pj hw⟩
    | exact⟨fun e=>by simp [uT,Fence.wide]at e,fun cc cs _=>have ⟨v,w1,r1,s1⟩:=hw cc cs;⟨v,w1,r1,(stepsIn_wide (P:=P)).2 s1⟩⟩
 | halt v w'=>
   cases v<;>first
    | exact hw
    | exact hw.elim
abbrev KRy:=Nat->List Kv->Kt Ke->Nat->Option (Kt Ke×Nat)
def mK (P:Program) (I:World->Prop) (Y:aP) (ry:KRy):Prop:= ∀ (F:KF) (o:Option Nat) (h:Kt Ke) (c:Nat) (w:World) (G:Kg) (id:Nat) (xs:List Kv) (us:Array Value) (h':Kt Ke) (c':Nat),F.I=I->F.Y=Y->HK F c h w G->Iq G xs us.toList->ry id xs h c=some (h',c')->
 ∃ l f tmps asg bd,G.blk id=some l/\(Instr.yield l us).run P w= .ok (.round l f tmps asg bd) w/\RoundIn (uT o) 0 P l f tmps asg bd w (fun e w'=>e= .returned (.bool true)/\Lp F h c G w (.c (.b true)) h' c' (.bool true) w')
def kno:KRy:=fun _ _ _ _=>none
theorem AaJ {I:World->Prop} {Y:aP}:mK P I Y kno:=fun _ _ _ _ _ _ _ _ _ _ _ _ _ _ _ hs=>by cases hs
def kyl (tm:Kt Kv) (op:Op):Option (Nat×List Kv):=match op with
 | .call cl=>match cl.callee with
   | .value x=>match Fa tm x with
     | .c (.y id)=>some (id,cl.args.toList.map (Fa tm))
     | _=>none
   | _=>none
 | _=>none
def AaK (P:Program) (X:KX) (gs:List (Nat×List Kc)) (rec:SS) (ry:KRy) (tm:Kt Kv) (h:Kt Ke) (c:Nat) (op:Op):Option (Kv×Kt Ke×Nat):=match kyl tm op with
 | some (id,xs)=>match ry id xs h c with
   | some (h',c')=>some (.c (.b true),h',c')
   | none=>none
 | none=>VA P X gs rec tm h c op
theorem wY {ry:KRy} {o:Option Nat} (hX:Qw P F.I X) (hgt:Sc F.I gs) (o_:Kx P F.I F.Y rec) (hry:mK P F.I F.Y ry) (hk:HK F c h w G) (I_:SK n tm a G) {op:Oper} {v:Kv} {Q:Exit->Act->World->Prop} (hs:AaK P X gs rec ry tm h c op.op=some (v,h',c')):
 op.wpIn (uT o) 0 P a w (fun a' w'=> ∃ u,a'=a.put op.dst u/\Lp F h c G w v h' c' u w') Q:=by
 unfold AaK at hs;split at hs
 ·rename_i id xs hy;split at hs
  ·rename_i h1 c1 hr;simp only [injEq,Prod.mk.injEq]at hs;obtain⟨rfl,rfl,rfl⟩:=hs;unfold kyl at hy;split at hy
   ·rename_i cl ho;split at hy
    ·rename_i x aaD;split at hy
     ·rename_i id' hx;simp only [injEq,Prod.mk.injEq]at hy;obtain⟨rfl,rfl⟩:=hy;obtain⟨l,f,tmps,asg,bd,q1,q2,q3⟩:=hry F o h c w G id' _ (cl.args.map a.eval) _ _ rfl rfl hk (by simpa using I_.evs cl.args.toList) hr;have hv:=I_.ev x;rw [hx]at hv;obtain⟨l',e1,hv⟩:=hv;rw [q1]at e1;injection e1 with e1;subst e1;have h_:(execOp a.eval op).run P w= .ok (.round l f tmps asg bd) w:=by simp [execOp,ho,resolve,aaD,hv,Deferred.ofValue,invoke,q2]
      refine⟨fun _ _=>trivial,?_⟩;rw [Oper.semAt_eq _ _ _ (by rw [ho];intro _ e;cases e),h_,Oper.uponIn_round];exact⟨fun e=>by simp [uT,Fence.wide]at e,q3.mono fun e w' ⟨he,hb⟩=>by subst he;exact⟨_,rfl,hb⟩⟩
     ·cases hy
    ·cases hy
   ·cases hy
  ·cases hs
 ·exact Oper.wp_kfe (fun cl e=>by rw [e]at hs;simp [VA,Vx,RM]at hs) (fk hX hgt o_ hk I_ hs)
def jK (P:Program) (X:KX) (gs:List (Nat×List Kc)) (rec:SS) (ry:KRy) (n:Nat) (ops:Array Oper):List Oper->Kt Kv->Kt Ke->Nat->Option KR
 | [],tm,h,c=>some (tm,h,c)
 | o::rest,tm,h,c=>match kgd tm ops o with
   | some true=>match AaK P X gs rec ry tm h c o.op with
     | some (v,h',c')=>match sF n tm o.dst v with
       | some L_=>jK P X gs rec ry n ops rest L_ h' c'
       | none=>none
     | none=>none
   | some false=>match sF n tm o.dst .sk with
     | some L_=>jK P X gs rec ry n ops rest L_ h c
     | none=>none
   | none=>none
theorem ST {ry:KRy} {fo:Option Nat} (hX:Qw P F.I X) (hgt:Sc F.I gs) (o_:Kx P F.I F.Y rec) (hry:mK P F.I F.Y ry) {ops:Array Oper} {Q:Exit->Act->World->Prop} {tm1:Kt Kv} {h1:Kt Ke} {c1:Nat}:
 ∀ (l:List Oper) (tm:Kt Kv) (h:Kt Ke) (c:Nat) (a:Act) (w:World) (G:Kg),HK F c h w G->SK n tm a G->jK P X gs rec ry n ops l tm h c=some (tm1,h1,c1)->(∀ a' w' G',pg F n h c G w tm1 h1 c1 a' w' G'->Q .normal a' w')->wpListIn (uT fo) 0 P ops Q l a w
 | [],tm,h,c,a,w,G,hk,I_,hs,hQ=>by simp only [jK,injEq,Prod.mk.injEq]at hs;obtain⟨rfl,rfl,rfl⟩:=hs;exact hQ a w G (.of hk I_ (CP.refl _ _ _) (Kp.refl _ _) (le_refl _))
 | o::rest,tm,h,c,a,w,G,hk,I_,hs,hQ=>by
   refine wpListIn_step fun K' hK'=>?_;simp only [jK]at hs;split at hs
   ·rename_i hg;rw [jJ I_ hg,if_pos rfl];split at hs
    ·rename_i v h' c' IN;split at hs
     ·rename_i L_ hp;have hw:=wY (Q:=Q) (o:=fo) hX hgt o_ hry hk I_ (op:=o) IN;refine Oper.wpIn_mono (fun a' w' ⟨u,e,G',k1,k2,k3,k4,k5⟩=>?_) hw;subst e;have k6:=(I_.mono k2.le k2.df).put k3 hp;have kt:pg F n h c G w L_ h' c' (a.put o.dst u) w' G':= .of k1 k6 k2 k4 k5;exact hK' _ _ (ST hX hgt o_ hry rest L_ h' c' _ w' G' k1 k6 hs fun a2 w2 G2 t2=>hQ a2 w2 G2 (kt.trans t2))
     ·cases hs
    ·cases hs
   ·rename_i hg;rw [jJ I_ hg,if_neg (by simp)];split at hs
    ·rename_i L_ hp;have k6:=I_.put (v:=Go.undef) (x:= .sk) (d:=o.dst) rfl hp;exact⟨fun _ _=>trivial,hK' _ _ (ST hX hgt o_ hry rest L_ h c _ w G hk k6 hs hQ)⟩
    ·cases hs
   ·cases hs
def CK (P:Program) (X:KX) (gs:List (Nat×List Kc)) (rec:SS) (n:Nat):Code->Kt Kv->Kt Ke->Nat->Option KR
 | .skip,tm,h,c=>some (tm,h,c)
 | .label _,tm,h,c=>some (tm,h,c)
 | .seq x y,tm,h,c=>match CK P X gs rec n x tm h c with
   | some (L_,h',c')=>CK P X gs rec n y L_ h' c'
   | none=>none
 | .block _ x,tm,h,c=>CK P X gs rec n x tm h c
 | .region _ ops dr,tm,h,c=>match dr with
   | false=>jK P X gs rec kno n ops ops.toList tm h c
   | true=>none
 | _,_,_,_=>none
theorem Ja {fo:Option Nat} (hX:Qw P F.I X) (hgt:Sc F.I gs) (o_:Kx P F.I F.Y rec): ∀ (code:Code) (tm:Kt Kv) (h:Kt Ke) (c:Nat) (L_:Kt Kv) (h':Kt Ke) (c':Nat) (a:Act) (w:World) (G:Kg),CK P X gs rec n code tm h c=some (L_,h',c')->HK F c h w G->SK n tm a G->
 code.wpIn (uT fo) 0 P (fun e a' w'=>e= .normal /\ ∃ G',pg F n h c G w L_ h' c' a' w' G') a w
 | .skip,tm,h,c,L_,h',c',a,w,G,hs,hk,I_=>by simp only [CK,injEq,Prod.mk.injEq]at hs;obtain⟨rfl,rfl,rfl⟩:=hs;exact wpIn_skip ⟨rfl,G, .of hk I_ (CP.refl _ _ _) (Kp.refl _ _) (le_refl _)⟩
 | .label _,tm,h,c,L_,h',c',a,w,G,hs,hk,I_=>by simp only [CK,injEq,Prod.mk.injEq]at hs;obtain⟨rfl,rfl,rfl⟩:=hs;exact wpIn_label ⟨rfl,G, .of hk I_ (CP.refl _ _ _) (Kp.refl _ _) (le_refl _)⟩
 | .seq x y,tm,h,c,L_,h',c',a,w,G,hs,hk,I_=>by
   simp only [CK]at hs;split at hs
   ·rename_i tm1 h1 c1 h2;refine wpIn_seq (wpIn_mono (Ja (fo:=fo) hX hgt o_ x tm h c tm1 h1 c1 a w G h2 hk I_) fun e a1 w1 ⟨he,G1,t1⟩=>?_);subst he;exact wpIn_mono (Ja (fo:=fo) hX hgt o_ y tm1 h1 c1 L_ h' c' a1 w1 G1 hs t1.hk t1.sk) fun e a2 w2 ⟨he,G2,t2⟩=>⟨he,G2,t1.trans t2⟩
   ·cases hs
 | .region id ops dr,tm,h,c,L_,h',c',a,w,G,hs,hk,I_=>by
   simp only [CK]at hs;split at hs
   ·exact wpIn_region_list (ST hX hgt o_ AaJ ops.toList tm h c a w G hk I_ hs fun a' w' G' ht=>⟨rfl,G',ht⟩)
   ·cases hs
 | .ret,_,_,_,_,_,_,_,_,_,hs,_,_=>by simp [CK]at hs
 | .exit _,_,_,_,_,_,_,_,_,_,hs,_,_=>by simp [CK]at hs
 | .scope _,_,_,_,_,_,_,_,_,_,hs,_,_=>by simp [CK]at hs
 | .block j x,tm,h,c,L_,h',c',a,w,G,hs,hk,I_=>by simp only [CK]at hs;refine wpIn_block (wpIn_mono (Ja (fo:=fo) hX hgt o_ x tm h c L_ h' c' a w G hs hk I_) fun e a1 w1 ⟨he,G1,t1⟩=>?_);subst he;exact⟨rfl,G1,t1⟩
 | .cond ..,_,_,_,_,_,_,_,_,_,hs,_,_=>by simp [CK]at hs
 | .loop _,_,_,_,_,_,_,_,_,_,hs,_,_=>by simp [CK]at hs
 | .rangeFunc ..,_,_,_,_,_,_,_,_,_,hs,_,_=>by simp [CK]at hs
 | .goto _,_,_,_,_,_,_,_,_,_,hs,_,_=>by simp [CK]at hs
 | .refuse _,_,_,_,_,_,_,_,_,_,hs,_,_=>by simp [CK]at hs
def kyf:aP->Nat->Option KYr
 | [],_=>none
 | (g,v)::r,f=>match Nat.beq g f with
   | true=>some v
   | false=>kyf r f
theorem mL: ∀ {X:aP} {f:Nat} {v:KYr},kyf X f=some v->(f,v)∈X
 | [],_,_,h=>by cases h
 | (g,u)::r,f,v,h=>by
   simp only [kyf]at h;split at h
   ·rename_i hb;have:=eq_of_beq_eq_true hb;injection h with h;subst h this;simp
   ·exact List.mem_cons_of_mem _ (mL h)
def jL (n:Nat):List Tmp->List Kv->Kt Kv->Option (Kt Kv)
 | [],[],t=>some t
 | p::ps,v::vs,t=>match sF n t (some p) v with
   | some t'=>jL n ps vs t'
   | none=>none
 | _,_,_=>none
theorem mM: ∀ {ps:List Tmp} {vs:List Kv} {us:List Value} {t t':Kt Kv} {tmps:Array Value} {d:List Deferred},jL n ps vs t=some t'->Iq G vs us->SK n t ⟨tmps,d⟩ G->
 us.length=ps.length/\SK n t' ⟨(ps.zip us).foldl (fun tm p=>tm.setIfInBounds p.1 p.2) tmps,d⟩ G
 | [],[],us,t,t',tmps,d,hs,hv,hk=>by simp only [jL]at hs;injection hs with hs;subst hs;simp only [Iq]at hv;subst hv;exact⟨rfl,hk⟩
 | p::ps,v::vs,us,t,t',tmps,d,hs,⟨u,r,e,h1,h2⟩,hk=>by
   simp only [jL]at hs;split at hs
   ·rename_i t1 hp;subst e;have k1:=hk.put (d:=some p) h1 hp;have ⟨k2,k3⟩:=mM hs h2 k1;exact⟨by simp [k2],k3⟩
   ·cases hs
 | [],_::_,_,_,_,_,_,hs,_,_=>by simp [jL]at hs
 | _::_,[],_,_,_,_,_,hs,_,_=>by simp [jL]at hs
def jM (P:Program) (X:KX) (gs:List (Nat×List Kc)) (rec:SS) (Y:aP):KRy:=fun id xs h c=>match kyf Y id with
 | some y=>match jL y.n y.ps.toList xs y.tm with
   | some tm=>match CK P X gs rec y.n y.asg tm h c with
     | some (tm1,h1,c1)=>match CK P X gs rec y.n y.bd tm1 h1 c1 with
       | some (_,h2,c2)=>some (h2,c2)
       | none=>none
     | none=>none
   | none=>none
 | none=>none
theorem HK.ys {Y0:aP} (hk:HK F c h w G) (hy: ∀ q∈Y0,q∈F.Y):HK ⟨F.w0,F.I,Y0⟩ c h w G:=⟨hk.ent,hk.inj,hk.new,hk.fr,hk.inv,hk.out,hk.hsize,hk.ext,fun q hq=>hk.rcs q (hy q hq)⟩
theorem pk {I:World->Prop} {Y:aP} (hX:Qw P I X) (hgt:Sc I gs) (o_:Kx P I [] rec):mK P I Y (jM P X gs rec Y):=by
 intro F o h c w G id xs us h' c' hI hY hk hxs hs;subst hI hY;unfold jM at hs;split at hs
 ·rename_i y hy;split at hs
  ·rename_i tm htm;split at hs
   ·rename_i tm1 h1 c1 hr1;split at hs
    ·rename_i tm2 h2 c2 hr2;simp only [injEq,Prod.mk.injEq]at hs;obtain⟨rfl,rfl⟩:=hs;obtain⟨l,r,k1,k2,k3,k4,k5,k6,k7,k8,k9,k10,k11⟩:=hk.rcs (id,y) (mL hy);simp only at k1 k2 k3 k4 k5 k6 k7 k8 k9 k10 k11;have hl:l<w.heap.size:=(Array.getElem?_eq_some_iff.1 k3).1;have hk0:HK ⟨F.w0,F.I,[]⟩ c h w (G.dd []):=(hk.dd []).ys (fun _ q=>by cases q);obtain⟨q1,q2⟩:=mM (tmps:=r.tmps) (d:=[]) htm (hxs.mono (G.le_dd [])) ⟨rfl,k10,fun i=>(k11 i).mono (G.le_dd [])⟩;have Tr:us.size=r.params.size:=by rw [k7];simpa using q1
     have ea:(r.params.zip us).foldl (fun tmps (t,a)=>tmps.setIfInBounds t a) r.tmps=(y.ps.toList.zip us.toList).foldl (fun tm p=>tm.setIfInBounds p.1 p.2) r.tmps:=by rw [k7, <-Array.foldl_toList,Array.toList_zip]
     refine⟨l,r.fn,_,r.assign,r.body,k1,run_yield k3 Tr,roundIn_of_wpIn trivial ?_⟩;rw [ea,k8,k9];refine wpIn_mono (Ja (F:=⟨F.w0,F.I,[]⟩) (fo:=some l) hX hgt o_ y.asg tm h c tm1 h1 c1 _ w _ hr1 hk0 q2) fun e a1 w1 ⟨he,G1,t1⟩=>?_;subst he;have un1: ∀ i e,h1.get i=some e->G1.blk i ≠ some l:=fun i e hi hb=>by
      rcases t1.st.own i e l hi hb with z | ⟨j,d,z1,z2⟩
      ·omega
      ·exact k4 j d z1 z2
     have hl1:w1.heap[l]? =some (.loop r):=(t1.st.frm l hl k4).trans k3;have hs1:=t1.st.size;refine⟨_,run_beginRound hl1 k5,?_⟩;have hk1:=t1.hk.poke (.loop {r with state:= .busy}) un1 k2 (fun q hq=>by cases hq);refine wpIn_mono (Ja (F:=⟨F.w0,F.I,[]⟩) (fo:=some l) hX hgt o_ y.bd tm1 h1 c1 tm2 h2 c2 a1 _ G1 hr2 hk1 t1.sk) fun e a2 w3 ⟨he,G2,t2⟩=>?_;subst he;have un2: ∀ i e,h2.get i=some e->G2.blk i ≠ some l:=fun i e hi hb=>by
      rcases t2.st.own i e l hi hb with z | ⟨j,d,z1,z2⟩
      ·rw [World.putObj_size]at z;omega
      ·exact un1 j d z1 z2
     have hl3:w3.heap[l]? =some (.loop {r with state:= .busy}):=(t2.st.frm l (by rw [World.putObj_size];omega) un1).trans (World.putObj_heap_same (by omega));have hs3:=t2.st.size;rw [World.putObj_size]at hs3;have er:({({r with state:= .busy}:Loop)with state:=if(none:Option Code).isNone then .ready else .done,pending:=none}:Loop)=r:=by cases r;simp_all
     have ah7:=run_endRound (P:=P) none hl3;rw [er]at ah7;refine⟨_,_,ah7,rfl,G2.dd G.df,?_⟩;have hle:G.le (G2.dd G.df):=⟨fun i b q=>t2.st.le.blk i b (t1.st.le.blk i b q),fun i b q=>t2.st.le.cap i b (t1.st.le.cap i b q)⟩;have afw: ∀ b,b<w.heap.size->(∀ i e,h.get i=some e->G.blk i ≠ some b)->(w3.putObj l (.loop r)).heap[b]? =w.heap[b]? :=fun b hb hu=>by
      by_cases q:b=l
      ·subst q;rw [World.putObj_heap_same (by omega),k3]
      ·rw [World.putObj_heap_other q];refine(t2.st.frm b (by rw [World.putObj_size];omega) fun i e hi hq=>?_).trans ((World.putObj_heap_other q).trans (t1.st.frm b hb hu));rcases t1.st.own i e b hi hq with z | ⟨j,d,z1,z2⟩
       ·omega
       ·exact hu j d z1 z2
     have z_: ∀ i e b,h2.get i=some e->(G2.dd G.df).blk i=some b->w.heap.size<=b\/ ∃ j d,h.get j=some d/\G.blk j=some b:=fun i e b hi hq=>by
      rcases t2.st.own i e b hi hq with z | ⟨j,d,z1,z2⟩
      ·rw [World.putObj_size]at z;exact .inl (by omega)
      ·exact t1.st.own j d b z1 z2
     have hk2:=(t2.hk.poke (.loop r) un2 k2 (fun q hq=>by cases hq)).dd G.df;refine⟨⟨hk2.ent,hk2.inj,hk2.new,hk2.fr,hk2.inv,hk2.out,hk2.hsize,hk2.ext,fun q hq=>(hk.rcs q hq).mono hle afw z_⟩,⟨hle,by rw [World.putObj_size];omega,afw,z_,?_,rfl⟩,rfl,t1.kp.trans t2.kp t1.le,le_trans t1.le t2.le⟩;have o1:DD w1 (w1.putObj l (.loop {r with state:= .busy})):=⟨rfl,rfl,rfl⟩;exact OC t1.st.out (OC o1 (OC t2.st.out ⟨rfl,rfl,rfl⟩))
    ·cases hs
   ·cases hs
  ·cases hs
 ·cases hs
end
end
end Go.PL
namespace Go.PL
open Go Go.RowKit
noncomputable section
def Lq (o:Oper):List Nat:=(o.after.toList.filter (Region.binds .any)).map (·.on)
def Be (m j:Nat):Bool:=Nat.testBit m j
def tk (t:Kt Nat):List Nat->Nat
 | []=>0
 | j::js=>(1<<<j)||| (match t.get j with
   | some m=>m
   | none=>0)||| tk t js
def Sd:List Oper->Nat->Kt Nat->Kt Nat
 | [],_,t=>t
 | o::r,i,t=>Sd r (i+1) (t.put i (some (tk t (Lq o))))
def VB:List Oper->Nat->Bool
 | [],_=>true
 | o::r,i=>(Lq o).all (fun j=>Nat.blt j i)&&VB r (i+1)
def kmk' (t:Kt Nat) (i:Nat):Nat:=match t.get i with
 | some m=>m
 | none=>0
theorem mN {t:Kt Nat} {j:Nat}: ∀ {l:List Nat},Be (tk t l) j=true↔ ∃ k∈l,k=j\/Be (kmk' t k) j=true
 | []=>by simp [tk,Be]
 | k::l=>by
   simp only [tk,Be,Nat.testBit_or,Bool.or_eq_true,mem_cons,exists_eq_or_imp];have ih:=mN (t:=t) (j:=j) (l:=l);simp only [Be]at ih;rw [ih];have h1:(1<<<k).testBit j=true↔k=j:=by rw [Nat.one_shiftLeft,Nat.testBit_two_pow];simp
   rw [h1];rfl
theorem YL {t t':Kt Nat}: ∀ {l:List Nat},(∀ j∈l,t.get j=t'.get j)->tk t l=tk t' l
 | [],_=>rfl
 | k::l,h=>by simp only [tk];rw [h k (by simp),YL (fun j hj=>h j (by simp [hj]))]
theorem VC: ∀ (l:List Oper) (i:Nat) (t:Kt Nat) (j:Nat),j<i->(Sd l i t).get j=t.get j
 | [],_,_,_,_=>rfl
 | o::r,i,t,j,h=>by simp only [Sd];rw [VC r (i+1) _ j (by omega),Kt.get_put,if_neg (by omega)]
theorem aS: ∀ (l:List Oper) (i:Nat) (t:Kt Nat),VB l i=true-> ∀ j o,l[j]? =some o->kmk' (Sd l i t) (i+j)=tk (Sd l i t) (Lq o)/\ ∀ k∈Lq o,k<i+j
 | [],_,_,_,j,o,h=>by simp at h
 | o'::r,i,t,hb,j,o,h=>by
   simp only [VB,and_eq_true,List.all_eq_true,blt_eq]at hb;simp only [Sd];cases j with
   | zero=>
     simp at h;subst h;simp only [add_zero];refine⟨?_,hb.1⟩;have h1:=VC r (i+1) (t.put i (some (tk t (Lq o')))) i (by omega);unfold kmk';rw [h1,Kt.get_put,if_pos rfl];refine YL fun k hk=>?_;have:=hb.1 k hk;rw [VC r (i+1) _ k (by omega),Kt.get_put,if_neg (by omega)]
   | succ j=>
     have:=aS r (i+1) (t.put i (some (tk t (Lq o')))) hb.2 j o (by simpa using h);rw [show i+(j+1)=i+1+j by omega];exact this
structure aT (ops:Array Oper) (m:Nat->Nat):Prop where
 lt: ∀ i o,ops[i]? =some o-> ∀ j∈Lq o,j<i
 bit: ∀ i o,ops[i]? =some o-> ∀ j,Be (m i) j=true↔ ∃ k∈Lq o,k=j\/Be (m k) j=true
theorem wZ {ops:Array Oper} (h:VB ops.toList 0=true):aT ops (kmk' (Sd ops.toList 0 .lf)) where
 lt:=fun i o ho j hj=>by have:=(aS ops.toList 0 .lf h i o (by simpa using ho)).2 j hj;omega
 bit:=fun i o ho j=>by have:=(aS ops.toList 0 .lf h i o (by simpa using ho)).1;rw [Nat.zero_add]at this;rw [this];exact mN
section
variable {ops:Array Oper} {m:Nat->Nat}
theorem aT.back (hm:aT ops m): ∀ (i:Nat) o,ops[i]? =some o-> ∀ j,Be (m i) j=true->j<i:=by
 intro i;induction i using Nat.strongRecOn with
 | ind i ih=>
   intro o ho j hj;obtain⟨k,hk,h⟩:=(hm.bit i o ho j).1 hj;have hki:=hm.lt i o ho k hk;rcases h with rfl | h
   ·exact hki
   ·have Tw:i<ops.size:=(Array.getElem?_eq_some_iff.1 ho).1;have:=ih k hki ops[k] (by simp [Nat.lt_trans hki Tw]) j h;omega
def KDn (m:Nat->Nat) (N:Nat) (L:Array Bool):Prop:=L.size=N/\ ∀ k,L.getD k false=true-> ∀ j,Be (m k) j=true->L.getD j false=true
theorem aU (hm:aT ops m) {L:Array Bool} (hd:KDn m ops.size L) {i:Nat} (h:i∈Region.ready .any ops L): ∃ o,ops[i]? =some o/\L.getD i false=false/\ ∀ j,Be (m i) j=true->L.getD j false=true:=by
 obtain⟨h0,o,ho,abg⟩:=mem_ready.1 h;refine⟨o,ho,vP h0,fun j hj=>?_⟩;obtain⟨k,hk,q⟩:=(hm.bit i o ho j).1 hj;have hkL:L.getD k false=true:=by simp only [Lq,mem_map,mem_filter]at hk;obtain⟨e,⟨he,hb⟩,rfl⟩:=hk;exact abg e (by simpa using he) hb
 rcases q with rfl | q
 ·exact hkL
 ·exact hd.2 k hkL j q
theorem KDn.set (hm:aT ops m) {L:Array Bool} (hd:KDn m ops.size L) {i:Nat} (h:i∈Region.ready .any ops L):KDn m ops.size (L.setIfInBounds i true):=by
 obtain⟨o,ho,h1,h2⟩:=aU hm hd h;refine⟨by simp [hd.1],fun k hk j hj=>?_⟩;rcases Cr hk with rfl | hk
 ·exact getD_set_true (h2 j hj)
 ·exact getD_set_true (hd.2 k hk j hj)
theorem jN (hm:aT ops m) {L:Array Bool} (hs:L.size=ops.size) (h:Region.ready .any ops L=[]): ∀ i,i<ops.size->L.getD i false=true:=by
 intro i;induction i using Nat.strongRecOn with
 | ind i ih=>
   intro hi;cases hL:L.getD i false with
   | true=>rfl
   | false=>
     have:i∈Region.ready .any ops L:=mem_ready.2 ⟨by
      rw [getD_eq_getD_getElem?]at hL ⊢;rw [Array.getElem?_eq_getElem (by omega)]at hL ⊢;simpa using hL,ops[i],by simp [hi],fun e he hb=>by
      have hk:e.on∈Lq ops[i]:=by simp only [Lq,mem_map,mem_filter];exact⟨e,⟨by simpa using he,hb⟩,rfl⟩
      have:=hm.lt i ops[i] (by simp [hi]) _ hk;exact ih e.on this (by omega)⟩
     rw [h]at this;cases this
end
def fq:List (Nat×Ke)->Kt Ke->Kt Ke
 | [],t=>t
 | (i,e)::r,t=>(fq r t).put i (some e)
theorem pm {l:List (Nat×Ke)} {t:Kt Ke} (hn:(l.map (·.1)).Nodup) {id:Nat} {e:Ke}:(fq l t).get id=some e↔(id,e)∈l\/(id∉l.map (·.1)/\t.get id=some e):=by
 induction l with
 | nil=>simp [fq]
 | cons x l ih=>
   obtain⟨i,d⟩:=x;simp only [map_cons,nodup_cons]at hn;have ih:=ih hn.2;simp only [fq,Kt.get_put,mem_cons,Prod.mk.injEq,map_cons];by_cases q:id=i
   ·subst q;simp only [if_true,injEq,true_and,true_or,not_true,false_and,or_false];constructor
    ·intro h;exact .inl h.symm
    ·rintro(h | h)
     ·exact h.symm
     ·exact absurd (mem_map.2 ⟨_,h,rfl⟩) hn.1
   ·rw [if_neg q,ih];simp [q]
theorem HK.sub {F:KF} {c:Nat} {h h1:Kt Ke} {w:World} {G:Kg} (hk:HK F c h w G) (hs: ∀ i e,h1.get i=some e->h.get i=some e):HK F c h1 w G:=
 ⟨fun i e q=>hk.ent i e (hs i e q),fun i j e d b q1 q2=>hk.inj i j e d b (hs i e q1) (hs j d q2),fun i e b q=>hk.new i e b (hs i e q),hk.fr,hk.inv,hk.out,hk.hsize,hk.ext,fun q hq=>have ⟨l,r,h1,h2,h3,h4,h5⟩:=hk.rcs q hq;⟨l,r,h1,h2,h3,fun i e hi=>h4 i e (hs i e hi),h5⟩⟩
theorem HK.join {F:KF} {c c':Nat} {U A A' U':Kt Ke} {w w':World} {G G':Kg} (hk:HK F c U w G) (hA: ∀ i e,A.get i=some e->U.get i=some e) (h2:HK F c' A' w' G') (IN:CP A G w A' G' w') (hkp:Kp c G G')
 (hU: ∀ i e,U'.get i=some e->A'.get i=some e\/(U.get i=some e/\A.get i=none)):HK F c' U' w' G'/\CP U G w U' G' w':=by
 have Tc: ∀ i e,U.get i=some e-> ∃ b,G.blk i=some b/\G'.blk i=some b/\b<w.heap.size:=fun i e hi=>by obtain⟨b,_,_,_,_,h1,_⟩:=hk.ent i e hi;exact⟨b,h1,IN.le.blk _ _ h1,hk.lt hi h1⟩
 have afE: ∀ i e b,U.get i=some e->A.get i=none->G.blk i=some b-> ∀ j d,A.get j=some d->G.blk j ≠ some b:=fun i e b hi hn hb j d hj q=>by have:=hk.inj i j e d b hi (hA j d hj) hb q;subst this;rw [hn]at hj;cases hj
 have aiJ: ∀ i e b,U.get i=some e->A.get i=none->G'.blk i=some b-> ∀ j d,A'.get j=some d->G'.blk j=some b->False:=fun i e b hi hn hb j d hj q=>by
  obtain⟨b',k1,k2,k3⟩:=Tc i e hi;rw [hb]at k2;injection k2 with k2;subst k2;rcases IN.own j d b hj q with r | ⟨j',d',r1,r2⟩
  ·omega
  ·exact afE i e b hi hn k1 j' d' r1 r2
 have z_: ∀ i e b,U'.get i=some e->G'.blk i=some b->w.heap.size<=b\/ ∃ j d,U.get j=some d/\G.blk j=some b:=fun i e b hi hb=>by
  rcases hU i e hi with q | ⟨q1,q2⟩
  ·rcases IN.own i e b q hb with r | ⟨j,d,r1,r2⟩
   ·exact .inl r
   ·exact .inr ⟨j,d,hA j d r1,r2⟩
  ·obtain⟨b1,k1,k2,_⟩:=Tc i e q1;rw [hb]at k2;injection k2 with k2;subst k2;exact .inr ⟨i,e,q1,k1⟩
 have afw: ∀ b,b<w.heap.size->(∀ i e,U.get i=some e->G.blk i ≠ some b)->w'.heap[b]? =w.heap[b]? :=fun b hb hu=>IN.frm b hb fun i e hi=>hu i e (hA i e hi);refine⟨⟨fun i e hi=>?_,fun i j e d b hi hj hbi hbj=>?_,fun i e b hi hb=>?_,h2.fr,h2.inv,h2.out,h2.hsize,h2.ext,fun q hq=>(hk.rcs q hq).mono IN.le afw z_⟩,⟨IN.le,IN.size,afw,z_,IN.out,IN.df⟩⟩
 ·rcases hU i e hi with q | ⟨q1,q2⟩
  ·exact h2.ent i e q
  ·refine WY.mono IN.le (fun b hb=>IN.frm b (hk.lt q1 hb) (afE i e b q1 q2 hb)) (hk.ent i e q1)
 ·rcases hU i e hi with q | ⟨q1,q2⟩<;>rcases hU j d hj with r | ⟨r1,r2⟩
  ·exact h2.inj i j e d b q r hbi hbj
  ·exact(aiJ j d b r1 r2 hbj i e q hbi).elim
  ·exact(aiJ i e b q1 q2 hbi j d r hbj).elim
  ·obtain⟨b1,k1,k2,_⟩:=Tc i e q1;obtain⟨b2,k3,k4,_⟩:=Tc j d r1;rw [hbi]at k2;injection k2 with k2;subst k2;rw [hbj]at k4;injection k4 with k4;subst k4;exact hk.inj i j e d b q1 r1 k1 k3
 ·rcases hU i e hi with q | ⟨q1,q2⟩
  ·exact h2.new i e b q hb
  ·obtain⟨b1,k1,k2,_⟩:=Tc i e q1;rw [hb]at k2;injection k2 with k2;subst k2;exact hk.new i e b q1 k1
end
end Go.PL
namespace Go.PL
open Go Go.RowKit
noncomputable section
inductive Ko where
 | fl
 | ld
 | mk (e:Ke)
 | ch
structure KD where
 V:Nat->Kv
 kd:Nat->Ko
 qi:Nat->Nat
 Hp:Nat->Kt Ke
 Cn:Nat->Nat
 ab:Nat->Nat
 mks:List (Nat×Ke)
 M:Nat
def aV (c0:Nat) (mks:List (Nat×Ke)) (ab:Nat) (f:Nat->Bool):List (Nat×Ke):=(mks.filter fun x=>f x.1&& !(Be ab x.1)).map fun x=>(c0+x.1,x.2)
def KD.U (D:KD) (c0:Nat) (f:Nat->Bool) (p:Nat):Kt Ke:=fq (aV c0 D.mks (D.ab p) f) (D.Hp p)
def w4 (dm:Kt Nat) (mi:Nat) (tm:Kt Kv) (V:Nat->Kv) (s:Nat):Kv:=match dm.get s with
 | some j=>match Be mi j with
   | true=>V j
   | false=>gt tm s
 | none=>gt tm s
def CJ (dm:Kt Nat) (mi:Nat) (tm:Kt Kv) (V:Nat->Kv):List Nat->Kt Kv
 | []=> .lf
 | s::r=>(CJ dm mi tm V r).put s (some (w4 dm mi tm V s))
theorem ft {dm:Kt Nat} {mi:Nat} {tm:Kt Kv} {V:Nat->Kv}: ∀ {l:List Nat} {s:Nat},gt (CJ dm mi tm V l) s=if s∈l then w4 dm mi tm V s else .u
 | [],s=>by simp [CJ,gt,Kt.get_lf]
 | x::r,s=>by
   have ih:=ft (dm:=dm) (mi:=mi) (tm:=tm) (V:=V) (l:=r) (s:=s);simp only [gt]at ih;simp only [CJ,gt,Kt.get_put,mem_cons];by_cases q:s=x
   ·subst q;simp
   ·rw [if_neg q,ih];simp [q]
def fu (V:Nat->Kv):List Oper->Nat->Kt Kv->Kt Kv
 | [],_,t=>t
 | o::r,i,t=>fu V r (i+1) (match o.dst with
   | some d=>t.put d (some (V i))
   | none=>t)
theorem Qx {V:Nat->Kv}: ∀ {l:List Oper} {i:Nat} {t:Kt Kv} {s:Nat},(∀ (j:Nat) (o:Oper),l[j]? =some o->o.dst ≠ some s)->gt (fu V l i t) s=gt t s
 | [],_,_,_,_=>rfl
 | o::r,i,t,s,h=>by
   simp only [fu];rw [Qx (fun j o' ho=>h (j+1) o' (by simpa using ho))];have h0:=h 0 o (by simp);cases hd:o.dst with
   | none=>rfl
   | some d=>simp only [gt,Kt.get_put];rw [if_neg (fun e=>h0 (by rw [hd,e]))]
theorem YM {V:Nat->Kv}: ∀ {l:List Oper} {i:Nat} {t:Kt Kv} {s j:Nat} {o:Oper},l[j]? =some o->o.dst=some s->(∀ (j':Nat) (o':Oper),j' ≠ j->l[j']? =some o'->o'.dst ≠ some s)->gt (fu V l i t) s=V (i+j)
 | [],_,_,_,_,_,h,_,_=>by simp at h
 | o'::r,i,t,s,j,o,h,hd,hu=>by
   simp only [fu];cases j with
   | zero=>
     simp at h;subst h;rw [Qx (fun j o'' ho=>hu (j+1) o'' (by omega) (by simpa using ho)),hd];simp [gt,Kt.get_put]
   | succ j=>
     rw [YM (j:=j) (o:=o) (by simpa using h) hd (fun j' o'' hj ho=>hu (j'+1) o'' (by omega) (by simpa using ho)),show i+1+j=i+(j+1) by omega]
section
variable {P:Program} {X:KX} {gs:List (Nat×List Kc)} {rec:SS} {ops:Array Oper} {m:Nat->Nat} {dm:Kt Nat} {n c0:Nat} {tm:Kt Kv} {h:Kt Ke} {D:KD}
structure KEv (P:Program) (X:KX) (gs:List (Nat×List Kc)) (rec:SS) (ops:Array Oper) (m:Nat->Nat) (dm:Kt Nat) (c0:Nat) (tm:Kt Kv) (D:KD) (i:Nat) (o:Oper):Prop where
 g: ∃ g,kgd (CJ dm (m i) tm D.V (o.looksAt ops)) ops o=some g/\(g=false->D.kd i= .fl /\D.V i= .sk)/\(g=true->
  (D.kd i= .fl ->Vx P (CJ dm (m i) tm D.V (o.looksAt ops)) o.op=some (D.V i))/\
  (D.kd i= .ld -> ∀ p,p<=D.M->(∀ k,k<ops.size->D.kd k= .ch ->(Be (m i) k=true->D.qi k<p)/\(Be (m k) i=true->p<=D.qi k))->kld P gs (D.U c0 (Be (m i)) p) (CJ dm (m i) tm D.V (o.looksAt ops)) o.op=some (D.V i))/\
  (∀ e,D.kd i= .mk e->kmk P (CJ dm (m i) tm D.V (o.looksAt ops)) o.op (c0+i)=some (e,D.V i))/\
  (D.kd i= .ch ->VA P X gs rec (CJ dm (m i) tm D.V (o.looksAt ops)) (D.U c0 (Be (m i)) (D.qi i)) (D.Cn (D.qi i)) o.op=some (D.V i,D.Hp (D.qi i+1),D.Cn (D.qi i+1))))
structure jO (P:Program) (X:KX) (gs:List (Nat×List Kc)) (rec:SS) (ops:Array Oper) (m:Nat->Nat) (dm:Kt Nat) (n c0:Nat) (tm:Kt Kv) (h:Kt Ke) (D:KD):Prop where
 hm:aT ops m
 dst: ∀ (i j:Nat) (oi oj:Oper),ops[i]? =some oi->ops[j]? =some oj->i ≠ j-> ∀ d,oj.dst=some d->oi.dst ≠ some d/\(d∈oi.looksAt ops->Be (m i) j=true\/Be (m j) i=true)
 dmk: ∀ s j,dm.get s=some j↔ ∃ o,ops[j]? =some o/\o.dst=some s
 dlt: ∀ (i:Nat) (o:Oper) (d:Nat),ops[i]? =some o->o.dst=some d->d<n
 ev: ∀ (i:Nat) (o:Oper),ops[i]? =some o->KEv P X gs rec ops m dm c0 tm D i o
 mkn:(D.mks.map (·.1)).Nodup
 mkm: ∀ i e,(i,e)∈D.mks↔i<ops.size/\D.kd i= .mk e
 chq: ∀ i,i<ops.size->D.kd i= .ch ->D.qi i<D.M
 chs: ∀ p,p<D.M-> ∃ i,i<ops.size/\D.kd i= .ch /\D.qi i=p
 cho: ∀ i j,i<ops.size->j<ops.size->D.kd i= .ch ->D.kd j= .ch ->D.qi i<D.qi j->Be (m j) i=true
 chi: ∀ i j,i<ops.size->j<ops.size->D.kd i= .ch ->D.kd j= .ch ->D.qi i=D.qi j->i=j
 ab0:D.ab 0=0
 abS: ∀ i,i<ops.size->D.kd i= .ch ->D.ab (D.qi i+1)=D.ab (D.qi i)||| m i
 H0:D.Hp 0=h
 C0:D.Cn 0=c0+ops.size
theorem VD {c0:Nat} {mks:List (Nat×Ke)} {ab:Nat} {f:Nat->Bool} {id:Nat} {e:Ke}:(id,e)∈aV c0 mks ab f↔ ∃ j,id=c0+j/\(j,e)∈mks/\f j=true/\Be ab j=false:=by
 simp only [aV,mem_map,mem_filter,and_eq_true,Bool.not_eq_true',Prod.mk.injEq,Prod.exists];constructor
 ·rintro⟨j,e',⟨h1,h2,h3⟩,h4,h5⟩;subst h5;exact⟨j,h4.symm,h1,h2,h3⟩
 ·rintro⟨j,rfl,h1,h2,h3⟩;exact⟨j,e,⟨h1,h2,h3⟩,rfl,rfl⟩
theorem w5 {c0:Nat} {mks:List (Nat×Ke)} {ab:Nat} {f:Nat->Bool} (h:(mks.map (·.1)).Nodup):((aV c0 mks ab f).map (·.1)).Nodup :=by
 induction mks with
 | nil=>simp [aV]
 | cons x l ih=>
   simp only [map_cons,nodup_cons]at h;have ih:=ih h.2;simp only [aV,List.filter_cons]at ih ⊢;split
   ·simp only [map_cons,nodup_cons];refine⟨fun q=>h.1 ?_,ih⟩;simp only [List.map_map,mem_map,mem_filter,Function.comp]at q;obtain⟨y,⟨hy,_⟩,e⟩:=q;have:y.1=x.1:=by simp at e;exact e
    exact mem_map.2 ⟨y,hy,this⟩
   ·exact ih
theorem KD.U_get (hn:(D.mks.map (·.1)).Nodup) {f:Nat->Bool} {p id:Nat} {e:Ke}:(D.U c0 f p).get id=some e↔(∃ j,id=c0+j/\(j,e)∈D.mks/\f j=true/\Be (D.ab p) j=false)\/((¬ ∃ j e',id=c0+j/\(j,e')∈D.mks/\f j=true/\Be (D.ab p) j=false)/\(D.Hp p).get id=some e):=by
 unfold KD.U;rw [pm (w5 hn),VD];refine or_congr Iff.rfl (and_congr_left fun _=>not_congr ?_);simp only [mem_map,Prod.exists,exists_and_right,exists_eq_right];constructor
 ·rintro⟨e',he⟩;obtain⟨j,h1,h2⟩:=VD.1 he;exact⟨j,e',h1,h2⟩
 ·rintro⟨j,e',h1,h2⟩;exact⟨e',VD.2 ⟨j,h1,h2⟩⟩
structure OG (ops:Array Oper) (m:Nat->Nat) (dm:Kt Nat) (n c0:Nat) (tm:Kt Kv) (h:Kt Ke) (D:KD) (F:KF) (G0:Kg) (w0:World) (L:Array Bool) (p:Nat) (a:Act) (w:World) (G:Kg):Prop where
 d:KDn m ops.size L
 pM:p<=D.M
 pc: ∀ k,k<ops.size->D.kd k= .ch ->(L.getD k false=true↔D.qi k<p)
 hk:HK F (D.Cn p) (D.U c0 (fun j=>L.getD j false) p) w G
 cle:c0+ops.size<=D.Cn p
 und: ∀ j,j<ops.size->(L.getD j false=false\/ ∀ e,D.kd j ≠ .mk e)->G.blk (c0+j)=none/\G.cap (c0+j)=none
 res: ∀ j e,(j,e)∈D.mks->Be (D.ab p) j=false->(D.Hp p).get (c0+j)=none
 abL: ∀ j,Be (D.ab p) j=true->L.getD j false=true
 sl: ∀ s,KV G (match dm.get s with
  | some j=>match L.getD j false with
    | true=>D.V j
    | false=>gt tm s
  | none=>gt tm s) (a.tmps.getD s Go.undef)
 sz:a.tmps.size=n
 dfr:a.defers=G.df
 st:CP h G0 w0 (D.U c0 (fun j=>L.getD j false) p) G w
 kp:Kp c0 G0 G
theorem OG.view (hy:jO P X gs rec ops m dm n c0 tm h D) {F:KF} {G0 G:Kg} {w0 w:World} {L:Array Bool} {p:Nat} {a:Act} (hi:OG ops m dm n c0 tm h D F G0 w0 L p a w G) {i:Nat} {o:Oper} (ho:ops[i]? =some o) (hun:L.getD i false=false) (aaT: ∀ j,Be (m i) j=true->L.getD j false=true):
 SK n (CJ dm (m i) tm D.V (o.looksAt ops)) a G:=by
 refine⟨hi.dfr,hi.sz,fun s=>?_⟩;rw [ft];by_cases hs:s∈o.looksAt ops
 ·rw [if_pos hs];have h1:=hi.sl s;unfold w4;cases hd:dm.get s with
  | none=>rw [hd]at h1;exact h1
  | some j=>
    rw [hd]at h1;simp only at h1 ⊢;cases hb:Be (m i) j with
    | true=>rw [aaT j hb]at h1;exact h1
    | false=>
      obtain⟨oj,hoj,hdj⟩:=(hy.dmk s j).1 hd;have hL:L.getD j false=false:=by
       by_cases e:i=j
       ·subst e;exact hun
       ·rcases (hy.dst i j o oj ho hoj e s hdj).2 hs with q | q
        ·rw [hb]at q;cases q
        ·cases hL:L.getD j false with
         | false=>rfl
         | true=>rw [hi.d.2 j hL i q]at hun;cases hun
      rw [hL]at h1;exact h1
 ·rw [if_neg hs];trivial
theorem CU {L:Array Bool} {i:Nat} (h:i<L.size):(L.setIfInBounds i true).getD i false=true:=by simp [h]
theorem Bb {L:Array Bool} {i j:Nat} (h:j ≠ i):(L.setIfInBounds i true).getD j false=L.getD j false:=by simp [getD_eq_getD_getElem?,Array.getElem?_setIfInBounds,Ne.symm h]
theorem OG.slots (hy:jO P X gs rec ops m dm n c0 tm h D) {F:KF} {G0 G G':Kg} {w0 w:World} {L:Array Bool} {p:Nat} {a:Act} (hi:OG ops m dm n c0 tm h D F G0 w0 L p a w G) {i:Nat} {o:Oper} (ho:ops[i]? =some o) (hle:G.le G') (hdf:G'.df=G.df) {u:Value} (hu:KV G' (D.V i) u):
 (∀ s,KV G' (match dm.get s with
  | some j=>match (L.setIfInBounds i true).getD j false with
    | true=>D.V j
    | false=>gt tm s
  | none=>gt tm s) ((a.put o.dst u).tmps.getD s Go.undef))/\(a.put o.dst u).tmps.size =n/\(a.put o.dst u).defers =G'.df:=by
 have Tw:i<ops.size:=(Array.getElem?_eq_some_iff.1 ho).1;have hil:i<L.size:=by rw [hi.d.1];exact Tw
 refine⟨fun s=>?_,?_,?_⟩
 ·have h1:=(hi.sl s).mono hle;cases hd:dm.get s with
  | none=>
    rw [hd]at h1;simp only at h1 ⊢;have n_: ∀ d,o.dst=some d->d ≠ s:=fun d Y_ e=>by subst e;have:=(hy.dmk d i).2 ⟨o,ho,Y_⟩;rw [hd]at this;cases this
    rw [Cs n_];exact h1
  | some j=>
    rw [hd]at h1;simp only at h1 ⊢;obtain⟨oj,hoj,hdj⟩:=(hy.dmk s j).1 hd;by_cases e:j=i
    ·subst e;rw [hoj]at ho;injection ho with ho;subst ho;rw [CU hil];have hs:s<n:=hy.dlt j oj s hoj hdj;have:(a.put oj.dst u).tmps.getD s Go.undef=u:=by rw [hdj];simp [Act.put,getD_eq_getD_getElem?,hi.sz,hs]
     rw [this];exact hu
    ·rw [Bb e];have n_: ∀ d,o.dst=some d->d ≠ s:=fun d Y_ e2=>by subst e2;exact(hy.dst i j o oj ho hoj (Ne.symm e) d hdj).1 Y_
     rw [Cs n_];exact h1
 ·cases hd:o.dst<;>simp [Act.put,hi.sz]
 ·cases hd:o.dst<;>simp [Act.put,hi.dfr,hdf]
end
end
end Go.PL
