/- The pure logic: Tq, Tr, Ts, Tv, Tv2, PlYh, PlPa, PlPb, PlPc, PlPl, PlPq, PlPw, PlPd, PlPx. -/
import Derived.Test.YteginlijmbcopaaGreatDoorTu6toTw2
import Derived.Test.YteginlijmbcopaaGreatDoorPlYctoTu5
import Derived.Shelf.Spec.SlicesInsert
import Derived.Shelf.Spec.SlicesInsertGrow
import Derived.Test.YteginlijmbcopaaGreatDoorPlRtoPlPe
import Derived.Lib.ItoaNum
import Derived.Lib.AtoiAll
import Derived.Lib.Bytealg
import Derived.Lib.Join
import Derived.JoinedOf
import Derived.Handed
import Derived.LaidSub
import Derived.Lib.LaidTab
open List (map_cons length_append all_cons map_nil length_cons headD_nil append_assoc nil_append all_nil)
open Nat (zero_le zero_add mul_one)
open Bool (and_eq_true)
open Option.some (injEq)
set_option linter.all false
namespace Go.PL
open Go Go.RowKit
variable {T:Bm}
def ET (T:Bm):List (Nat×Iy)->Type
 | []=>Empty
 | [x]=>RT T x.2.ts
 | x::y::r=>RT T x.2.ts⊕ET T (y::r)
def vK {α β:Type} (f:α->β):Option α->Option β
 | some x=>some (f x)
 | none=>none
def sw (st0 a_:Af T) (k:Nat):(xs:List (Nat×Iy))->Option (ET T xs)
 | []=>none
 | [x]=>match Nat.beq x.1 k with
   | true=>x.2.gen st0 a_
   | false=>none
 | x::y::r=>match Nat.beq x.1 k with
   | true=>vK Sum.inl (x.2.gen st0 a_)
   | false=>vK Sum.inr (sw st0 a_ k (y::r))
def dn {R:Type} (st0:Af T) (K:Nat->Af T->Option R):(xs:List (Nat×Iy))->ET T xs->Option R
 | []=>fun o=>nomatch o
 | [x]=>fun v=>match x.2.inst st0 (CL x.2.ts v)with
   | some s=>K x.1 s
   | none=>none
 | x::y::r=>Sum.elim (fun v=>match x.2.inst st0 (CL x.2.ts v)with
   | some s=>K x.1 s
   | none=>none) (dn st0 K (y::r))
def nT:Nat->Exit
 | 0=> .ret
 | n+1=> .exit n
def Pj:Exit->Option Nat
 | .ret =>some 0
 | .exit n=>some (n+1)
 | _=>none
theorem nU {e:Exit} {k:Nat} (h:Pj e=some k):nT k=e:=by
 cases e<;>simp only [Pj,injEq]at h<;>first
  | (subst h;rfl)
  | grind
theorem TY {α β:Type} {f:α->β} {o:Option α} {y:β} (h:vK f o=some y): ∃ x,o=some x/\f x=y:=by
 cases o with
 | none=>cases h
 | some x=>injection h with h;grind
theorem qc {H H':Ax T} {R:Type} {st0 a_:Af T} {k:Nat} {K:Nat->Af T->Option R} {r:R} (h0:AI H st0) (hN:Nx H st0 H' a_): ∀ {xs:List (Nat×Iy)} {o:ET T xs},sw st0 a_ k xs=some o->dn st0 K xs o=some r->
 ∃ s H2,Wk a_.toSt s.toSt/\Nx H st0 H2 s/\K k s=some r
 | [],o,h,_=>by cases h
 | [x],o,h,he=>by
   simp only [sw]at h;split at h
   ·rename_i hb;have hb:=Nat.eq_of_beq_eq_true hb;subst hb;simp only [dn]at he;split at he
    ·rename_i s hi;obtain⟨H2,n2⟩:=Iy.aeq h0 (EG _ _) hi;exact⟨s,H2,Iy.ad7 h0 hN h hi,n2,he⟩
    ·cases he
   ·cases h
 | x::y::r',o,h,he=>by
   simp only [sw]at h;split at h
   ·rename_i hb;have hb:=Nat.eq_of_beq_eq_true hb;subst hb;obtain⟨v,h1,rfl⟩:=TY h;simp only [dn,Sum.elim_inl]at he;split at he
    ·rename_i s hi;obtain⟨H2,n2⟩:=Iy.aeq h0 (EG _ _) hi;grind [Iy.ad7]
    ·cases he
   ·obtain⟨v,h1,rfl⟩:=TY h;simp only [dn,Sum.elim_inr]at he;exact qc h0 hN h1 he
theorem sx {σ ρ:Type} {B:σ->Option (σ⊕ρ)} {n:Nat} {s:σ} {o:ρ} (h:PL.iter B n s=some o): ∃ z,B s=some z:=by
 cases n with
 | zero=>cases h
 | succ n=>
   simp only [PL.iter]at h;grind
section
variable {P:Program} {I:World->Prop}
def AcJ (Γ:List (CE T P I)) (rec:sj T) (ops:Array Oper) (dr:Bool) (fz:List Ah) (ow:List (Ah×Nat×Ah×Nat)) (il:Hl) (st:Af T) (R:Type) (K:Af T->Option R):Option R:=
 match dr with
 | false=>Yt Γ rec ops il ops.toList 0 (F6 fz st) R fun s=>match kg ow s with
   | some s'=>K s'
   | none=>none
 | true=>match AgS il with
   | true=>TU il 0 (F6 fz st) R fun s0=>AcI Γ rec ops il (AeF ops) s0 R fun s=>match kg ow s with
     | some s'=>K s'
     | none=>none
   | false=>match Region.lexB .any ops with
     | true=>uQ Γ ops ops.toList (F6 fz st) R fun s=>match kg ow s with
       | some s'=>K s'
       | none=>none
     | false=>none
def AcK:Hn->List Ah×List (Ah×Nat×Ah×Nat)×Hl
 | .r fz ow il=>(fz,ow,il)
 | _=>([],[], .n)
def vM {R:Type} (N:Af T->Option R) (K:Exit->Af T->Option R) (e:Exit) (s:Af T):Option R:=match e with
 | .normal =>N s
 | e=>K e s
def vN {R:Type} (j:Nat) (K:Exit->Af T->Option R) (e:Exit) (s:Af T):Option R:=match e with
 | .exit i=>match Nat.beq i j with
   | true=>K .normal s
   | false=>K (.exit i) s
 | e=>K e s
def PQ {α:Type} (h:Hn) (o:Option α):Option α:=match h with
 | .x =>none
 | _=>o
theorem EI {α:Type} {h:Hn} {o:Option α} {x:α} (q:PQ h o=some x):o=some x:=by grind [PQ]
def LI (Γ:List (CE T P I)) (rec:sj T):Code->Hn->Af T->(R:Type)->(Exit->Af T->Option R)->Option R
 | .skip,h,st,_,K=>PQ h (K .normal st)
 | .ret,h,st,_,K=>PQ h (K .ret st)
 | .exit j,h,st,_,K=>PQ h (K (.exit j) st)
 | .label _,h,st,_,K=>PQ h (K .normal st)
 | .scope c,h,st,R,K=>PQ h (LI Γ rec c h st R fun e s=>match Pj e with
   | some _=>K e s
   | none=>match e with
     | .normal =>K .normal s
     | _=>none)
 | .block j c,h,st,R,K=>PQ h (LI Γ rec c h st R (vN j K))
 | .cond c x y,h,st,R,K=>PQ h (match st.ev c with
   | .c (.k .bool b)=>if(show Bool from b) then LI Γ rec x h.a st R K else LI Γ rec y h.b st R K
   | _=>none)
 | .seq a b,h,st,R,K=>match h with
   | .j sh ha hb=>jn (fun v:RT T sh.ts=>match sh.inst st (CL sh.ts v)with
    | some s=>LI Γ rec b hb s R K
    | none=>none) (fun j=>LI Γ rec a ha st R (vM (fun s=>match sh.gen st s with
      | some v=>j v
      | none=>none) K))
   | .x =>none
   | h=>LI Γ rec a h.a st R (vM (fun s=>LI Γ rec b h.b s R K) K)
 | .region _ ops dr,h,st,R,K=>PQ h (AcJ Γ rec ops dr (AcK h).1 (AcK h).2.1 (AcK h).2.2 st R (K .normal))
 | .loop c,h,st,R,K=>match h with
   | .l sh xs hb=>match sh.gen st st with
     | some v0=>(iter (fun v:RT T sh.ts=>match sh.inst st (CL sh.ts v)with
      | some s=>LI Γ rec c hb s (RT T sh.ts⊕ET T xs) fun e s'=>match e with
        | .normal =>match sh.gen st s' with
          | some v'=>match sh.inst st (CL sh.ts v')with
            | some _=>some (.inl v')
            | none=>none
          | none=>none
        | e=>match Pj e with
          | some k=>vK Sum.inr (sw st s' k xs)
          | none=>none
      | none=>none) FU v0).bind (dn st (fun k s=>K (nT k) s) xs)
     | none=>none
   | _=>none
 | _,_,_,_,_=>none
theorem Ad.wkQ {F:Fr} {c:Code} {st:St} {Q:Exit->St->Prop} (h:Ad P F c st (fun e s=> ∃ s',Wk s s'/\Q e s')):Ad P F c st Q:=fun a w G hR=>
 Code.wp_mono (fun _ _ _ ⟨_,G',⟨s',hwk,hq⟩,hR'⟩=>by obtain⟨G'',q⟩:=hwk _ _ _ _ hR';grind) (h a w G hR)
theorem yY {Γ:List (CE T P I)} {rec:sj T} (abL:P.follows .mixedOrders =true) (abz:kh P I rec) {ops:Array Oper} {id:Nat} {dr:Bool} {fz:List Ah} {ow:List (Ah×Nat×Ah×Nat)} {il:Hl} {st:Af T} {H:Ax T} (hw:AI H st) {R:Type} {K:Af T->Option R} {r:R}
 (hr:AcJ Γ rec ops dr fz ow il st R K=some r) {F:Fr} (hI:F.I=I) {Q:Exit->St->Prop} (hK: ∀ H' a_,Nx H st H' a_->K a_=some r->Q .normal a_.toSt):Ad P F (.region id ops dr) st.toSt Q:=by
 obtain⟨⟨H1,n1⟩,w1⟩:=GC (l:=fz) (Nx.refl hw);refine Ad.wk w1 (Ad.wkQ ?_);have fin: ∀ H' s,Nx H1 (F6 fz st) H' s->(match kg ow s with | some s'=>K s' | none=>none)=some r-> ∃ s',Wk s.toSt s'/\Q .normal s':=by
  intro H' s n q;split at q
  ·rename_i s' hs;obtain⟨⟨H2,n2⟩,w2,_⟩:=dk (n1.trans n) hs;grind
  ·cases q
 unfold AcJ at hr;split at hr
 ·refine Ad.aoc ?_;rw [hI];exact p7 abz il _ 0 _ H1 n1.ok R _ r hr (fun s=> ∃ s',Wk s s'/\Q .normal s') (by grind)
 ·split at hr
  ·obtain⟨s0,⟨⟨H0,n0⟩,_,w0⟩,hr⟩:=GU 0 il n1.ok R _ r hr;exact Ad.wk w0 (yX abL abz n0.ok hr hI (PK:=fun s=> ∃ s',Wk s s'/\Q .normal s') (fun _ h=>h) fun H' s n q=>fin H' s (n0.trans n) q)
  split at hr
  ·rename_i hl;refine Ad.aod abL hl ?_;rw [hI];obtain⟨s,⟨⟨H2,n2⟩,_,w2⟩,hr⟩:=jO (Γ:=Γ) (ops:=ops) ops.toList (F6 fz st) H1 n1.ok R _ r hr;grind
  ·cases hr
theorem FR {Γ:List (CE T P I)} {rec:sj T} (abL:P.follows .mixedOrders =true) (abz:kh P I rec): ∀ (c:Code) (h:Hn) (st:Af T) (H:Ax T) (R:Type) (K:Exit->Af T->Option R) (r:R),AI H st->LI Γ rec c h st R K=some r->
 ∀ (F:Fr) (Q:Exit->St->Prop),F.I=I->(∀ H' e a_,Nx H st H' a_->K e a_=some r->Q e a_.toSt)->Ad P F c st.toSt Q
 | .skip,h,st,H,R,K,r,hw,hr,F,Q,hI,hK=>Ad.skip (hK H _ st (Nx.refl hw) (EI hr))
 | .ret,h,st,H,R,K,r,hw,hr,F,Q,hI,hK=>Ad.ret (hK H _ st (Nx.refl hw) (EI hr))
 | .exit j,h,st,H,R,K,r,hw,hr,F,Q,hI,hK=>Ad.exit (hK H _ st (Nx.refl hw) (EI hr))
 | .label j,h,st,H,R,K,r,hw,hr,F,Q,hI,hK=>Ad.label (hK H _ st (Nx.refl hw) (EI hr))
 | .scope c,h,st,H,R,K,r,hw,hr,F,Q,hI,hK=>by
   refine Ad.scope (FR abL abz c h st H R _ r hw (EI hr) F _ hI fun H' e a_ n q=>?_);cases e<;>simp only [Pj]at q<;>first
    | (cases q;done)
    | exact hK H' _ a_ n q
 | .block j c,h,st,H,R,K,r,hw,hr,F,Q,hI,hK=>by
   refine Ad.block (FR abL abz c h st H R _ r hw (EI hr) F _ hI fun H' e a_ n q=>?_);cases e with
   | exit i=>
     simp only [vN]at q;simp only [Cr];split at q
     ·rename_i hb;rw [if_pos (Nat.eq_of_beq_eq_true hb)];grind
     ·rename_i hb;rw [if_neg (fun e=>by simp_all)];grind
   | _=>exact hK H' _ a_ n q
 | .cond c x y,h,st,H,R,K,r,hw,hr,F,Q,hI,hK=>by
   simp only [LI]at hr;replace hr:=EI hr;split at hr
   ·rename_i b hb;have hev:=st.abD c;rw [hb]at hev;refine Ad.cond (b:=b) hev (fun e=>?_) (fun e=>?_)
    ·rw [if_pos e]at hr;exact FR abL abz x h.a st H R K r hw hr F Q hI hK
    ·rw [if_neg (by rw [show (show Bool from b)=b from rfl,e];simp)]at hr;exact FR abL abz y h.b st H R K r hw hr F Q hI hK
   ·cases hr
 | .region id ops dr,h,st,H,R,K,r,hw,hr,F,Q,hI,hK=>by grind [LI,yY,EI]
 | .seq a b,h,st,H,R,K,r,hw,hr,F,Q,hI,hK=>by
   simp only [LI]at hr;split at hr
   ·rename_i sh ha hb;unfold jn at hr;refine Sj (X:=RT T sh.ts) (fun v=>match sh.inst st (CL sh.ts v)with | some s=>s.toSt | none=>st.toSt) (fun v=> ∃ s,sh.inst st (CL sh.ts v)=some s/\LI Γ rec b hb s R K=some r) ?_ ?_
    ·refine FR abL abz a ha st H R _ r hw hr F _ hI fun H' e a_ n q=>?_;cases e<;>grind [vM,Cx,Iy.ad7]
    ·rintro v ⟨s,hi,q⟩;rw [hi];obtain⟨H2,n2⟩:=Iy.aeq hw (EG _ _) hi;exact FR abL abz b hb s H2 R K r n2.ok q F Q hI fun H' e a_ n' q'=>hK H' e a_ (n2.trans n') q'
   ·cases hr
   ·refine Ad.seq (FR abL abz a _ st H R _ r hw hr F _ hI fun H' e a_ n q=>?_);cases e with
    | normal=>exact FR abL abz b _ a_ H' R K r n.ok q F Q hI fun H'' e aqe n' q'=>hK H'' e aqe (n.trans n') q'
    | _=>exact hK H' _ a_ n q
 | .loop c,h,st,H,R,K,r,hw,hr,F,Q,hI,hK=>by
   simp only [LI]at hr;split at hr
   ·rename_i sh xs hb;split at hr
    ·rename_i v0 hg0;obtain⟨o,hi,hx⟩:=bS hr;have atJ: ∃ s,sh.inst st (CL sh.ts v0)=some s:=by obtain⟨z,hz⟩:=sx hi;grind
     obtain⟨s0,hs0⟩:=atJ;refine It (fun v=>match sh.inst st (CL sh.ts v)with | some s=>s.toSt | none=>st.toSt) hi ?_ fun v z hz ho=>?_
     ·rw [hs0];exact Iy.ad7 hw (Nx.refl hw) hg0 hs0
     ·split at hz
      ·rename_i s hs;obtain⟨H2,n2⟩:=Iy.aeq hw (EG _ _) hs;have aBs: ∀ (H':Ax T) (e:Exit) (a_:Af T) (k:Nat),Nx H2 s H' a_->Pj e=some k->vK Sum.inr (sw st a_ k xs)=some z-> ∃ s'',Wk a_.toSt s''/\Q e s'':=by intro H' e a_ k n he q;obtain⟨o',h1,h2⟩:=TY q;have:=ho o' h2.symm;subst this;obtain⟨s'',H3,w3,n3,k3⟩:=qc (K:=fun k s=>K (nT k) s) hw (n2.trans n) h1 hx;grind [nU]
       have main:=FR abL abz c hb s H2 _ _ z n2.ok hz F (fun e s'=>match e with
        | .normal => ∃ v',z= .inl v'/\Wk s' (match sh.inst st (CL sh.ts v')with | some s=>s.toSt | none=>st.toSt)
        | e=> ∃ s'',Wk s' s''/\Q e s'') hI fun H' e a_ n q=>by
          cases e with
          | normal=>
            simp only at q;split at q
            ·rename_i v' hg;split at q
             ·rename_i s1 hs1;injection q with q;refine⟨v',q.symm,?_⟩;rw [hs1];exact Iy.ad7 hw (n2.trans n) hg hs1
             ·cases q
            ·cases q
          | ret=>grind
          | exit i=>grind
          | goto l=>cases q
          | panic ch=>cases q
          | outgrown=>cases q
       refine Ad.wkQ (main.mono fun e s' q=>?_);cases e with
       | normal=>exact⟨s',Wk.less (B8.refl _),q⟩
       | _=>exact q
      ·cases hz
    ·cases hr
   ·cases hr
 | .rangeFunc ..,h,st,H,R,K,r,hw,hr,F,Q,hI,hK=>by grind [LI]
 | .goto _,h,st,H,R,K,r,hw,hr,F,Q,hI,hK=>by grind [LI]
 | .refuse _,h,st,H,R,K,r,hw,hr,F,Q,hI,hK=>by grind [LI]
end
end Go.PL
namespace Go.PL
open Go Go.RowKit
variable {T:Bm}
def Ml:(ts:List VT)->XS T ts->List (DV T)
 | [],_=>[]
 | t::ts,x=>PN t x.1::Ml ts x.2
theorem TZ: ∀ (ts:List VT) (x:XS T ts),Be (Ml ts x)=Gz ts x
 | [],_=>by simp only [Ml,Be,Gz]
 | t::ts,x=>by simp only [Ml,Be,Gz,Pc,TZ ts]
theorem Yz {H:Ax T} {n:Nat}: ∀ (ts:List VT) (x:XS T ts),CZ H n (Ml ts x)
 | [],_=>by simp only [Ml,CZ]
 | t::ts,x=>by simp only [Ml,CZ,RF,Yz ts,and_self]
def YA (args:List (DV T)) (n:Nat):Af T:=GQ 0 args ⟨n,[],[],[],[],0⟩
theorem dq {args:List (DV T)} {n:Nat} (ha: ∀ H:Ax T,CZ H 0 args): ∃ H,AI H (YA args n):=by let H0:Ax T:=⟨fun _=> .u,fun _=>⟨[],0, .box []⟩⟩;have h0:AI H0 (⟨n,[],[],[],[],0⟩:Af T):=⟨fun _ _ _ hm=>by simp at hm,(by grind),(by grind),by simp⟩;obtain⟨H,hN⟩:=Qz (i:=0) (Nx.refl h0) (ha H0);exact⟨H,hN.ok⟩
theorem Vp {args:List (DV T)} {n:Nat} (hl:args.length<=n):(YA args n).toSt =St.start (Be args) n:=by obtain⟨a,b,c,d⟩:=MY args 0 (⟨n,[],[],[],[],0⟩:Af T);unfold YA;simp only [Af.toSt,a,b,c,d,St.start,map_nil,List.flatMap_nil];rw [X8 hl];intro j;rw [QA];simp only [zero_le,true_and,zero_add,Nat.sub_zero];rfl
section
variable {H:Ax T} {P:Program} {I:World->Prop} {st:Af T}
def AcL (P:Program) (st:Af T) (t:VT) (x:ResultVar):M (ED T t):= .Q_ (Vg P st x) fun v=>match fg st v with
 | some w=> .sm (uO t w)
 | none=> .no
def dt (P:Program) (st:Af T):(ts:List VT)->List ResultVar->M (RT T ts)
 | [],[]=> .ret ()
 | [t],[x]=>AcL P st t x
 | t::u::ts,x::xs=> .Q_ (AcL P st t x) fun a=> .Q_ (dt P st (u::ts) xs) fun b=> .ret (a,b)
 | _,_=> .no
theorem sy (x:ResultVar) (s:St):Rj P s x=((Px P s x).1,BF s (Px P s x).2):=by cases x<;>rfl
theorem qd (hw:AI H st) (t:VT) (x:ResultVar):Yl (AcL P st t x) (fun r=>(Rj P st.toSt x).1/\(Rj P st.toSt x).2=EE t r):=
 Yl.Q_ (Kr hw x) fun v hv=>by
  obtain⟨a,b,c⟩:=hv;split
  ·rename_i w hs;refine Yl.sm fun r hr=>?_;rw [sy];exact⟨b,by simp only;rw [c,Vd hs,XT hr]⟩
  ·exact Yl.no
theorem km (hw:AI H st): ∀ (ts:List VT) (xs:List ResultVar),Yl (dt P st ts xs) (fun r=>(Gr P st.toSt xs).1/\(Gr P st.toSt xs).2=Cz ts r/\xs.length=ts.length)
 | [],[]=>Yl.ret ⟨trivial,by simp only [Gr,Cz],rfl⟩
 | [t],[x]=>(qd hw t x).mono fun r h=>⟨⟨h.1,trivial⟩,congrArg (fun z=>[z]) h.2,rfl⟩
 | t::u::ts,x::xs=>Yl.Q_ (qd hw t x) fun a ha=>Yl.Q_ (km hw (u::ts) xs) fun b hb=>Yl.ret (by
   simp_all [Gr,Cz])
 | [],_::_=>Yl.no
 | [_],[]=>Yl.no
 | [_],_::_::_=>Yl.no
 | _::_::_,[]=>Yl.no
theorem AcM (hw:AI H st) {ts:List VT} {xs:List ResultVar}:Yl (dt P st ts xs) (fun r=>(DH P st.toSt xs).1/\(DH P st.toSt xs).2=Jl ts r):=
 (km hw ts xs).mono fun r h=>by
  obtain⟨h1,h2,h3⟩:=h
  match ts,xs,r,h1,h2,h3 with
  | [],[],r,h1,h2,_=>grind [DH,Jl,Cz]
  | [t],[x],r,h1,h2,_=>
    simp only [Gr]at h1 h2;refine⟨h1.1,?_⟩;have:[(Rj P st.toSt x).2]=[EE t r]:=h2;injection this
  | t::u::ts,x::y::xs,r,h1,h2,_=>grind [DH,Jl]
  | [],_::_,_,_,_,h3=>simp at h3
  | [_],[],_,_,_,h3=>simp at h3
  | [_],_::_::_,_,_,_,h3=>simp at h3
  | _::_::_,[],_,_,_,h3=>simp at h3
  | _::_::_,[_],_,_,_,h3=>simp at h3
theorem Vq: ∀ (ts:List VT) (x:RT T ts),Cq (Cz ts x)=true
 | [],_=>by simp only [Cz,Cq]
 | [t],x=>by simp only [Cz,Cq,Bool.and_true];exact Dr t x
 | t::u::ts,x=>by simp only [Cz,Cq,Dr,Vq (u::ts),Bool.and_self]
theorem du: ∀ (ts:List VT) (x:RT T ts),(Jl ts x).pure =true
 | [],_=>by simp only [Jl,V.pure,Cq]
 | [t],x=>Dr t x
 | t::u::ts,x=>by grind [Jl,V.pure,Vq]
def vQ (Γ:List (CE T P I)):Nat->sj T
 | 0=>fun _ _ _ _ _=>none
 | n+1=>fun R c h st K=>LI Γ (vQ Γ n) c h st R K
theorem fI {Γ:List (CE T P I)} (abL:P.follows .mixedOrders =true): ∀ n,kh P I (vQ Γ n)
 | 0=>fun _ _ _ _ _ _ _ _ hr=>by simp [vQ]at hr
 | n+1=>fun R c h st H K r hw hr F Q hI hK=>FR abL (fI abL n) c h st H R K r hw hr F Q hI hK
def AeL (P:Program) (rs:List VT) (xs:List ResultVar) (e:Exit) (st:Af T):Option (RT T rs):=match e with
 | .normal =>dt P st rs xs _ some
 | .ret =>dt P st rs xs _ some
 | _=>none
def qe (Γ:List (CE T P I)) (n:Nat) (fn:Func) (body:Code) (h:Hn) (ps rs:List VT) (x:XS T ps):Option (RT T rs):=
 match Nat.ble (Ml ps x).length fn.ntmps with
 | true=>LI Γ (vQ Γ n) body h (YA (Ml ps x) fn.ntmps) (RT T rs) (AeL P rs fn.results.toList)
 | false=>none
theorem AeM {Γ:List (CE T P I)} (agt:J8 I) (abL:P.follows .mixedOrders =true) {n:Nat} {f:FuncId} {fn:Func} {body:Code} (hf:P.funcs[f]? =some fn) (hb:fn.body=some body) (abh:PL.ent P f=true) {h:Hn} {ps rs:List VT} {x:XS T ps} {r:RT T rs}
 (hr:qe Γ n fn body h ps rs x=some r):BV P I f (Gz ps x) (· =Jl rs r):=by
 unfold qe at hr;split at hr
 ·rename_i hl;obtain⟨H,hw⟩:=dq (args:=Ml ps x) (n:=fn.ntmps) (fun H=>Yz ps x);refine BV.of agt abh hf hb fun F hI=>?_;rw [<-TZ, <-Vp (by simp_all)];refine FR abL (fI abL n) body h _ H _ _ r hw hr F _ hI fun H' e a_ n q=>?_;have fin:dt P a_ rs fn.results.toList _ some=some r->(DH P a_.toSt fn.results.toList).1/\(DH P a_.toSt fn.results.toList).2.pure =true/\(DH P a_.toSt fn.results.toList).2=Jl rs r:=by intro q;obtain⟨v,⟨h1,h2⟩,h3⟩:=AcM n.ok _ _ r q;grind [du]
  cases e<;>simp only [AeL,pg]at q ⊢ <;>first
   | exact fin q
   | grind
 ·cases hr
def AgZ (Γ:List (CE T P I)) (agt:J8 I) (abL:P.follows .mixedOrders =true) (n:Nat) (f:FuncId) (fn:Func) (body:Code) (h:Hn) (ps rs:List VT) (run:XS T ps->Option (RT T rs)) (hf:P.funcs[f]? =some fn) (hb:fn.body=some body)
    (heq:run=qe Γ n fn body h ps rs) (abh:PL.ent P f=true:=by kernel_rfl):CE T P I where
 f:=f
 ps:=ps
 rs:=rs
 run:=run
 ok:=fun x r q=>AeM (h:=h) agt abL hf hb abh (by rw [<-heq];exact q)
end
end Go.PL
namespace Go.PL
theorem IC {a b:Prop} (h:a=b) (p:a):b:=h▸p
end Go.PL
namespace Go.PL
open Go Go.RowKit
structure Hm where
 den:Type
 inh:Inhabited den
 enc:den->List C
 ks:List Kd
def Hm.unit:Hm:=⟨Unit,⟨()⟩,fun _=>[],[]⟩
def RS:List (Nat×Hm)->Nat->Hm
 | [],_=> .unit
 | (k,r)::l,E=>match Nat.beq k E with
   | true=>r
   | false=>RS l E
structure NY (R:Nat->Hm) where
 E:Nat
 un:(R E).den ->DK (fun E=>(R E).den) (R E).ks
 bd:DK (fun E=>(R E).den) (R E).ks ->(R E).den
 beq:(R E).den ->(R E).den ->Bool
 aet: ∀ y,un (bd y)=y
 aaT: ∀ x,BG (fun E=>(R E).enc) (R E).ks (un x)=(R E).enc x
 ain: ∀ x y,beq x y=B0 ((R E).enc x) ((R E).enc y)
def kn {R:Nat->Hm}:List (NY R)->(E:Nat)->Option {e:NY R // e.E=E}
 | [],_=>none
 | e::l,E=>match Nat.decEq e.E E with
   | .isTrue h=>some ⟨e,h⟩
   | .isFalse _=>kn l E
theorem F7 {R:Nat->Hm}: ∀ {L1:List (NY R)} {L0:List (Nat×Hm)} {E:Nat},L1.map (·.E)=L0.map (·.1)->kn L1 E=none->RS L0 E= .unit
 | [],[],_,_,_=>rfl
 | [],_::_,_,h,_=>by simp at h
 | _::_,[],_,h,_=>by simp at h
 | e::L1,(k,r)::L0,E,h,hf=>by
   simp only [map_cons,List.cons.injEq]at h;unfold kn at hf;split at hf
   ·cases hf
   ·rename_i Tg _;have:Nat.beq k E=false:=by
     cases hb:Nat.beq k E with
     | false=>rfl
     | true=>exact absurd (h.1.trans (Nat.eq_of_beq_eq_true hb)) Tg
    simp only [RS,this];exact F7 h.2 hf
inductive af8 (R:Nat->Hm) (E:Nat) where
 | some (e:NY R) (h:e.E=E)
 | none (h:R E=Hm.unit)
def sA {R:Nat->Hm} (L1:List (NY R)) (hn: ∀ E,kn L1 E=none->R E= .unit) (E:Nat):af8 R E:=match h:kn L1 E with
 | some e=> .some e.1 e.2
 | none=> .none (hn E h)
section
variable {R:Nat->Hm} {E:Nat}
def af8.un:af8 R E->(R E).den ->DK (fun E=>(R E).den) (R E).ks
 | .some e h=>h▸e.un
 | .none h=>fun _=>h▸(():DK (fun E=>(R E).den) Hm.unit.ks)
def af8.bd:af8 R E->DK (fun E=>(R E).den) (R E).ks ->(R E).den
 | .some e h=>h▸e.bd
 | .none h=>fun _=>h▸(():Hm.unit.den)
def af8.beq:af8 R E->(R E).den ->(R E).den ->Bool
 | .some e h=>h▸e.beq
 | .none _=>fun _ _=>true
theorem af8.aet (s:af8 R E) (y:DK (fun E=>(R E).den) (R E).ks):s.un (s.bd y)=y:=by
 cases s with
 | some e h=>cases h;exact e.aet y
 | none h=>
   show h▸(():DK (fun E=>(R E).den) Hm.unit.ks)=y;have: ∀ (D:Nat->Type) (r:Hm) (h:r=Hm.unit) (y:DK D r.ks),h▸(():DK D Hm.unit.ks)=y:=by intro D r h y;subst h;rfl
   exact this _ _ h y
theorem af8.aaT (s:af8 R E) (x:(R E).den):BG (fun E=>(R E).enc) (R E).ks (s.un x)=(R E).enc x:=by
 cases s with
 | some e h=>cases h;exact e.aaT x
 | none h=>
   have: ∀ (r:Hm) (h:r=Hm.unit) (x:r.den) (z:DK (fun E=>(R E).den) r.ks),BG (fun E=>(R E).enc) r.ks z=r.enc x:=by intro r h x z;subst h;rfl
   grind
theorem af8.ain (s:af8 R E) (x y:(R E).den):s.beq x y=B0 ((R E).enc x) ((R E).enc y):=by
 cases s with
 | some e h=>cases h;exact e.ain x y
 | none h=>
   show true=_;have: ∀ (r:Hm) (h:r=Hm.unit) (x y:r.den),true=B0 (r.enc x) (r.enc y):=by intro r h x y;subst h;rfl
   grind
end
def AcN (L0:List (Nat×Hm)) (L1:List (NY (RS L0))) (hk:L1.map (·.E)=L0.map (·.1)):Bm where
 den E:=(RS L0 E).den
 inh E:=(RS L0 E).inh
 enc E:=(RS L0 E).enc
 ks E:=(RS L0 E).ks
 un E:=(sA L1 (fun _ h=>F7 hk h) E).un
 bd E:=(sA L1 (fun _ h=>F7 hk h) E).bd
 beq E:=(sA L1 (fun _ h=>F7 hk h) E).beq
 aet E:=(sA L1 (fun _ h=>F7 hk h) E).aet
 aaT E:=(sA L1 (fun _ h=>F7 hk h) E).aaT
 ain E:=(sA L1 (fun _ h=>F7 hk h) E).ain
end Go.PL
set_option linter.all false
namespace Go.PL
open Go Go.RowKit
variable {T:Bm}
def nV (st:Af T) (id:Ah):Option ((E:Nat)×(Int×List (T.den E))):=match Ep id&& !CM id with
 | false=>none
 | true=>match Hk st.so id with
   | some e=>match e.x with
     | .deep E n l none=>some ⟨E,(n,l)⟩
     | _=>none
   | none=>none
theorem ko {st:Af T} {id:Ah} {E:Nat} {n:Int} {l:List (T.den E)} (h:nV st id=some ⟨E,(n,l)⟩):Ep id=true/\CM id=false/\ ∃ e∈st.so,e.id=id/\e.x= .deep E n l none:=by
 unfold nV at h;split at h
 ·cases h
 ·rename_i hd;simp only [and_eq_true,Bool.not_eq_true']at hd;split at h
  ·rename_i e he;split at h
   ·rename_i E' n' l' hx;injection h with h;injection h with h1 h2;subst h1;have h2:=eq_of_heq h2;grind [C0]
   ·cases h
  ·cases h
def vR (k:Kd) (c:DC T):M (Pa T.den k×List Ah):= .Q_ (.sm (Iq true k c)) fun x=> .ret (x,[])
def yZ (st:Af T) (m:Nat) (k:Kd) (c:DC T):M (Pa T.den k×List Ah):=match k with
 | .t_ E=>match m with
   | 1=>match K7 c with
     | some id=>match DN st id with
       | some ⟨E',l⟩=> .Q_ (.sm (Ya E E' l)) fun l'=> .ret (l',[id])
       | none=> .no
     | none=> .no
   | 2=>match K7 c with
     | some id=>match nV st id with
       | some ⟨E',(n,l)⟩=> .opt (n_ (n=(List.length l:Nat))) fun _=> .Q_ (.sm (Ya E E' l)) fun l'=> .ret (l',[id])
       | none=> .no
     | none=> .no
   | _=>vR (.t_ E) c
 | k=>vR k c
def y6 (st:Af T):List Nat->(ks:List Kd)->List (DC T)->M (DK T.den ks×List Ah)
 | m::ms,k::ks,c::cs=> .Q_ (yZ st m k c) fun a=> .Q_ (y6 st ms ks cs) fun b=> .ret ((a.1,b.1),a.2++b.2)
 | [],k::ks,c::cs=> .Q_ (vR k c) fun a=> .Q_ (y6 st [] ks cs) fun b=> .ret ((a.1,b.1),b.2)
 | _,[],[]=> .ret ((),[])
 | _,_,_=> .no
def nW (st:Af T) (m:List Nat):(t:VT)->DV T->M (ED T t×List Ah)
 | .k kd,v=>match asC v with
   | some c=>yZ st (m.headD 0) kd c
   | none=> .no
 | .s E,v=>match asA v with
   | some cs=> .Q_ (y6 st m (T.ks E) cs) fun a=> .ret (T.bd E a.1,a.2)
   | none=> .no
 | .f _,_=> .no
def sB (P:Program) (st:Af T):List (List Nat)->(ts:List VT)->List ResultVar->M (RT T ts×List Ah)
 | m::_,[t],[x]=> .Q_ (Vg P st x) fun v=>nW st m t v
 | [],[t],[x]=> .Q_ (Vg P st x) fun v=>nW st [] t v
 | m::ms,t::u::ts,x::xs=> .Q_ (Vg P st x) fun v=> .Q_ (nW st m t v) fun a=> .Q_ (sB P st ms (u::ts) xs) fun b=> .ret ((a.1,b.1),a.2++b.2)
 | [],t::u::ts,x::xs=> .Q_ (Vg P st x) fun v=> .Q_ (nW st [] t v) fun a=> .Q_ (sB P st [] (u::ts) xs) fun b=> .ret ((a.1,b.1),a.2++b.2)
 | _,_,_=> .no
structure mc (st:Af T) (os:List OE) (ids:List Ah) (n:Nat):Prop where
 len:os.length=n/\ids.length=n
 ns:KO os ids=true
 so: ∀ e∈C1 os ids,e∈st.toSt.so
theorem mc.nil {st:Af T}:mc st [] [] 0:=⟨⟨rfl,rfl⟩,rfl,fun _ h=>by simp [C1]at h⟩
theorem mc.append {st:Af T} {a b:List OE} {i j:List Ah} {n m:Nat} (h:mc st a i n) (k:mc st b j m):mc st (a++b) (i++j) (n+m):=by
 have e:a.length=i.length:=h.len.1.trans h.len.2.symm;refine⟨⟨by simp [h.len.1,k.len.1],by simp [h.len.2,k.len.2]⟩,La h.ns k.ns,fun x hx=>?_⟩;rw [Jn e]at hx;rcases List.mem_append.1 hx with hx | hx
 ·exact h.so x hx
 ·exact k.so x hx
theorem Ku: ∀ (ks:List Kd) (x:DK T.den ks),CA [] ks x=[]
 | [],_=>rfl
 | _::_,_=>rfl
theorem sC (ks:List Kd):FI [] ks=0:=by cases ks<;>rfl
theorem qf {k:Kd} {c:DC T}:Yl (vR k c) (fun a=>a.2=[]/\ ∀ (w:World) (G:AF) (v:Value),Ae w G c.toC v->Ae w G (Bk T.enc k a.1) v):=
 Yl.Q_ (Yl.sm fun x hx=>(CK hx).1) fun x hx=>Yl.ret ⟨rfl,(by grind [JC])⟩
theorem qg {st:Af T} {H:Ax T} (hw:AI H st) (m:Nat) (k:Kd) (c:DC T):Yl (yZ st m k c) (fun a=>mc st (Kp m k a.1) a.2 (PD m k)/\
 ∀ (pre post:List Ah) (w:World) (G:AF) (v:Value),Ae w G c.toC v->Ae w G ((PO m pre.length k a.1).toC (pre++(a.2++post))) v):=by
 have fr: ∀ (k:Kd) (c:DC T),(∀ x,Kp (T:=T) m k x=[])->PD m k=0->Yl (vR k c) (fun a=>mc st (Kp m k a.1) a.2 (PD m k)/\
  ∀ (pre post:List Ah) (w:World) (G:AF) (v:Value),Ae w G c.toC v->Ae w G ((PO m pre.length k a.1).toC (pre++(a.2++post))) v):=fun k c h1 h2=>by
  refine qf.mono fun a ⟨q1,q2⟩=>⟨by grind [mc.nil],fun pre post w G v h=>?_⟩;unfold PO;rw [h2];exact q2 w G v h
 have own: ∀ (E:Nat) (id:Ah) (e:DE T) (dp:Bool) (l:List (T.den E)) (cs:List C),K7 c=some id->e∈st.so->e.id=id->Ep id=dp->CM id=false->e.toE=⟨id,some (E,T.sz E,l.length),cs,true⟩->
  mc st [⟨dp,E,T.sz E,l.length,cs⟩] [id] 1/\ ∀ (pre post:List Ah) (w:World) (G:AF) (v:Value),Ae w G c.toC v->Ae w G (PC.toC (pre++([id]++post)) (.o pre.length)) v:=by
  intro E id e dp l cs ho hm hid hd hmk hE;refine⟨⟨⟨rfl,rfl⟩,by simp [KO,hd,hmk],fun x hx=>?_⟩,fun pre post w G v h=>?_⟩
  ·simp only [C1,List.mem_singleton]at hx;subst hx;have:(⟨dp,E,T.sz E,l.length,cs⟩:OE).ent id=e.toE:=by rw [hE];rfl
   rw [this];exact List.mem_map.2 ⟨e,hm,rfl⟩
  ·simp only [PC.toC,uX];rw [EB ho]at h;grind [DC.toC]
 unfold yZ;cases k with
 | t_ E=>
   match m with
   | 0=>exact fr (.t_ E) c (fun _=>rfl) rfl
   | _+3=>exact fr (.t_ E) c (fun _=>rfl) rfl
   | 1=>
     simp only;split
     ·rename_i id ho;split
      ·rename_i E' l hr;refine Yl.Q_ (Yl.sm fun x hx=>hx) fun l' hl=>Yl.ret ?_;obtain⟨e,rfl⟩:=Ks hl;subst e;obtain⟨h1,_,d,h2,h3,h4⟩:=BQ hr;have hE:=DE.toE_row h4;rw [h3]at hE;exact own E' id d false l _ ho h2 h3 (FP h1) (by
        have:=hw;unfold DN Af.look at hr;cases hq:CM id with
        | false=>rfl
        | true=>simp [hq]at hr) hE
      ·exact Yl.no
     ·exact Yl.no
   | 2=>
     simp only;split
     ·rename_i id ho;split
      ·rename_i E' n l hr;refine Yl.opt fun u hu=>Yl.Q_ (Yl.sm fun x hx=>hx) fun l' hl=>Yl.ret ?_;obtain⟨e,rfl⟩:=Ks hl;subst e;obtain⟨h1,h1',d,h2,h3,h4⟩:=ko hr;have hn:n=(l.length:Int):=CJ hu;have hE:d.toE=⟨id,some (E',T.sz E',l.length),AC T E' (List.length l:Nat) 0 l,true⟩:=by unfold DE.toE;rw [h4,h3];subst hn;rfl
       exact own E' id d true l _ ho h2 h3 h1 h1' hE
      ·exact Yl.no
     ·exact Yl.no
 | int k=>exact fr (.int k) c (fun _=>rfl) rfl
 | bool=>exact fr .bool c (fun _=>rfl) rfl
 | str=>exact fr .str c (fun _=>rfl) rfl
theorem fJ {st:Af T} {H:Ax T} (hw:AI H st): ∀ (ms:List Nat) (ks:List Kd) (cs:List (DC T)),Yl (y6 st ms ks cs) (fun a=>mc st (CA ms ks a.1) a.2 (FI ms ks)/\
 ∀ (pre post:List Ah) (w:World) (G:AF) (vs:List Value),Ai w G (Av cs) vs->Ai w G ((FH ms pre.length ks a.1).map (PC.toC (pre++(a.2++post)))) vs)
 | [],[],[]=>Yl.ret ⟨mc.nil,(by grind [Av,FH])⟩
 | _::_,[],[]=>Yl.ret ⟨mc.nil,(by grind [Av,FH])⟩
 | m::ms,k::ks,c::cs=>Yl.Q_ (qg hw m k c) fun a ha=>Yl.Q_ (fJ hw ms ks cs) fun b hb=>Yl.ret (by
   refine⟨ha.1.append hb.1,fun pre post w G vs h=>?_⟩;cases vs with
   | nil=>simp [Av,Ai]at h
   | cons v vs=>
     simp only [Av,Ai]at h;simp only [FH,map_cons,Ai];have h2:=hb.2 (pre++a.2) post w G vs h.2;rw [length_append,ha.1.len.2]at h2;grind)
 | [],k::ks,c::cs=>Yl.Q_ qf fun a ha=>Yl.Q_ (fJ hw [] ks cs) fun b hb=>Yl.ret (by
   refine⟨hb.1,fun pre post w G vs h=>?_⟩;cases vs<;>grind [Av,Ai,FH,PC.toC])
 | [],[],_::_=>Yl.no
 | _::_,[],_::_=>Yl.no
 | [],_::_,[]=>Yl.no
 | _::_,_::_,[]=>Yl.no
theorem WB {st:Af T} {H:Ax T} (hw:AI H st) (m:List Nat) (t:VT) (v:DV T):Yl (nW st m t v) (fun a=>mc st (CA m (Fv T t) (Or t a.1)) a.2 (FI m (Fv T t))/\
 ∀ (pre post:List Ah) (w:World) (G:AF) (u:Value),Ab w G v.toV u->Ab w G ((Jg m pre.length t a.1).toV (pre++(a.2++post))) u):=by
 cases t with
 | k kd=>
   simp only [nW];split
   ·rename_i c hc;rw [XQ hc];refine(qg hw (m.headD 0) kd c).mono fun a ⟨h1,h2⟩=>?_;have e1:CA m [kd] ((a.1,()):DK T.den [kd])=Kp (m.headD 0) kd a.1:=by
     cases m with
     | nil=>simp only [CA,headD_nil];unfold Kp;grind
     | cons x m=>grind [CA]
    have e2:FI m [kd]=PD (m.headD 0) kd:=by
     cases m with
     | nil=>simp only [FI,headD_nil];unfold PD;grind
     | cons x m=>cases m<;>simp [FI]
    refine⟨by show mc st (CA m [kd] ((a.1,()):DK T.den [kd])) a.2 (FI m [kd]);grind,fun pre post w G u h=>?_⟩;grind [DV.toV,Ab,Jg,PP.toV]
   ·exact Yl.no
 | s E=>
   simp only [nW];split
   ·rename_i cs hc;rw [XR hc];refine Yl.Q_ (fJ hw m (T.ks E) cs) fun a ⟨h1,h2⟩=>Yl.ret ⟨?_,fun pre post w G u h=>?_⟩
    ·simp only [Fv,Or,T.aet];exact h1
    ·simp only [DV.toV,Ab]at h;obtain⟨arr,e,h⟩:=h;simp only [Jg,PP.toV,Ab,T.aet];grind
   ·exact Yl.no
 | f g=>exact Yl.no
theorem fK {P:Program} {st:Af T} {H:Ax T} (hw:AI H st): ∀ (ow:List (List Nat)) (ts:List VT) (xs:List ResultVar),Yl (sB P st ow ts xs) (fun a=>(CN P st.toSt xs).1/\(∃ n,mc st (Dv ow ts a.1) a.2 n)/\xs.length=ts.length/\
 ∀ (pre post:List Ah) (w:World) (G:AF) (us:List Value),As w G (CN P st.toSt xs).2 us->As w G ((Ca ow pre.length ts a.1).map (PP.toV (pre++(a.2++post)))) us)
 | m::ms,[t],[x]=>Yl.Q_ (Kr hw x) fun v hv=>(WB hw m t v).mono fun a ha=>by obtain⟨v1,v2,v3⟩:=hv;refine⟨⟨v2,trivial⟩,(by grind [Dv]),rfl,fun pre post w G us h=>?_⟩;simp only [CN,As]at h;obtain⟨u,r,rfl,h1,rfl⟩:=h;rw [v3]at h1;simp only [Ca,map_cons,map_nil,As];grind
 | [],[t],[x]=>Yl.Q_ (Kr hw x) fun v hv=>(WB hw [] t v).mono fun a ha=>by obtain⟨v1,v2,v3⟩:=hv;have e1:CA [] (Fv T t) (Or t a.1)=[]:=Ku _ _;rw [e1]at ha;refine⟨⟨v2,trivial⟩,(by grind [Dv]),rfl,fun pre post w G us h=>?_⟩;simp only [CN,As]at h;obtain⟨u,r,rfl,h1,rfl⟩:=h;rw [v3]at h1;simp only [Ca,map_cons,map_nil,As];grind
 | m::ms,t::u::ts,x::xs=>Yl.Q_ (Kr hw x) fun v hv=>Yl.Q_ (WB hw m t v) fun a ha=>Yl.Q_ (fK hw ms (u::ts) xs) fun b hb=>Yl.ret (by
   obtain⟨v1,v2,v3⟩:=hv;obtain⟨b1,⟨n,b2⟩,b3,b4⟩:=hb;refine⟨⟨v2,b1⟩,⟨_,by simp only [Dv];exact ha.1.append b2⟩,by grind,fun pre post w G us h=>?_⟩;simp only [CN,As]at h;obtain⟨u',r,rfl,h1,h2⟩:=h;rw [v3]at h1;have h3:=b4 (pre++a.2) post w G r h2;rw [length_append,ha.1.len.2]at h3;simp only [Ca,map_cons,As,append_assoc]at h3 ⊢;grind)
 | [],t::u::ts,x::xs=>Yl.Q_ (Kr hw x) fun v hv=>Yl.Q_ (WB hw [] t v) fun a ha=>Yl.Q_ (fK hw [] (u::ts) xs) fun b hb=>Yl.ret (by
   obtain⟨v1,v2,v3⟩:=hv;obtain⟨b1,⟨n,b2⟩,b3,b4⟩:=hb;have e1:CA [] (Fv T t) (Or t a.1)=[]:=Ku _ _;have e2:FI [] (Fv T t)=0:=sC _;rw [e1,e2]at ha;have e3:a.2=[]:=List.length_eq_zero_iff.1 ha.1.len.2;refine⟨⟨v2,b1⟩,(by grind [Dv]),by grind,fun pre post w G us h=>?_⟩;simp only [CN,As]at h;obtain⟨u',r,rfl,h1,h2⟩:=h;rw [v3]at h1;have h3:=b4 pre post w G r h2;have h4:=ha.2 pre (b.2++post) w G u' h1;rw [e3]at h4;simp only [Ca,map_cons,As,e3,nil_append]at h3 h4 ⊢;grind)
 | [],[],[]=>Yl.no
 | [],[],_::_=>Yl.no
 | _::_,[],[]=>Yl.no
 | _::_,[],_::_=>Yl.no
 | [],[_],[]=>Yl.no
 | _::_,[_],[]=>Yl.no
 | [],[_],_::_::_=>Yl.no
 | _::_,[_],_::_::_=>Yl.no
 | [],_::_::_,[]=>Yl.no
 | _::_,_::_::_,[]=>Yl.no
section
variable {P:Program} {I:World->Prop}
def Aa3 (P:Program) (ow:List (List Nat)) (rs:List VT) (xs:List ResultVar) (e:Exit) (st:Af T):Option (RT T rs):=match e with
 | .normal =>sB P st ow rs xs _ fun a=>match LE a.2 with
   | true=>some a.1
   | false=>none
 | .ret =>sB P st ow rs xs _ fun a=>match LE a.2 with
   | true=>some a.1
   | false=>none
 | _=>none
def fL (Γ:List (CE T P I)) (n:Nat) (fn:Func) (body:Code) (h:Hn) (ow:List (List Nat)) (ps rs:List VT) (x:XS T ps):Option (RT T rs):=
 match Nat.ble (Ml ps x).length fn.ntmps with
 | true=>LI Γ (vQ Γ n) body h (YA (Ml ps x) fn.ntmps) (RT T rs) (Aa3 P ow rs fn.results.toList)
 | false=>none
theorem vT (m:Nat) (k:Kd) (x:Pa T.den k):(PC.c (Bk T.enc k x)).ok m=true:=by have:=Dr (T:=T) (.k k) x;grind [EE,V.pure,PC.ok]
theorem kp (m j:Nat) (k:Kd) (x:Pa T.den k) (M:Nat) (h:j+PD m k<=M):(PO m j k x).ok M=true:=by grind [PO,vT,PC.ok,Nat.blt_eq]
theorem YB: ∀ (ms:List Nat) (j:Nat) (ks:List Kd) (x:DK T.den ks) (M:Nat),j+FI ms ks<=M->(FH ms j ks x).all (PC.ok M)=true
 | [],_,[],_,_,_=>rfl
 | _::_,_,[],_,_,_=>rfl
 | [],j,k::ks,x,M,h=>by
   have e:FI [] ks=0:=by cases ks<;>rfl
   simp only [FH,all_cons,vT,Bool.true_and];exact YB [] j ks x.2 M (by simp only [FI]at h;omega)
 | m::ms,j,k::ks,x,M,h=>by simp only [FI]at h;simp only [FH,all_cons,and_eq_true];exact⟨kp m j k x.1 M (by omega),YB ms (j+PD m k) ks x.2 M (by omega)⟩
theorem RU (m:List Nat) (j:Nat) (t:VT) (x:ED T t) (M:Nat) (h:j+FI m (Fv T t)<=M):(Jg m j t x).ok M=true:=by
 cases t with
 | k kd=>
   simp only [Jg,PP.ok];refine kp _ _ _ _ _ ?_;cases m with
   | nil=>simp only [headD_nil];unfold PD;grind
   | cons a m=>grind [Fv,FI]
 | s E=>exact YB _ _ _ _ _ h
 | f g=>rfl
theorem QI (ms:List Nat) (ks:List Kd) (x:DK T.den ks):(CA ms ks x).length =FI ms ks:=by obtain⟨a,b⟩:=M0 ms 0 [] ks x;rw [a,b]
theorem YC: ∀ (ow:List (List Nat)) (j:Nat) (ts:List VT) (x:RT T ts) (M:Nat),j+(Dv ow ts x).length <=M->(Ca ow j ts x).all (PP.ok M)=true
 | [],_,[],_,_,_=>rfl
 | _::_,_,[],_,_,_=>rfl
 | [],j,[t],x,M,h=>by simp only [Ca,all_cons,all_nil,Bool.and_true];grind [RU,FI]
 | m::ms,j,[t],x,M,h=>by simp only [Ca,all_cons,all_nil,Bool.and_true];grind [Dv,QI,RU]
 | [],j,t::u::ts,x,M,h=>by
   simp only [Ca,all_cons,and_eq_true]
   exact⟨RU [] j t x.1 M (by have:FI [] (Fv T t)=0:=by cases Fv T t<;>rfl
                             omega),YC [] j (u::ts) x.2 M (by have e:Dv [] (u::ts) x.2=[]:=by cases ts<;>rfl
                                                              rw [e];simp only [List.length_nil];omega)⟩
 | m::ms,j,t::u::ts,x,M,h=>by simp only [Dv,length_append,QI]at h;simp only [Ca,all_cons,and_eq_true];exact⟨RU m j t x.1 M (by omega),YC ms _ (u::ts) x.2 M (by omega)⟩
theorem dv {P:Program} {st:St} {xs:List ResultVar} {w:World} {G:AF} {v:Value} {ps:List PP} {ids:List Ah} (hl:ps.length=xs.length) (hs:(CN P st xs).1) (h: ∀ us,As w G (CN P st xs).2 us->As w G (ps.map (PP.toV ids)) us):(CI P st xs).1/\(Ab w G (CI P st xs).2 v->Ab w G (NW ids ps) v):=by
 match xs,ps,hl,hs,h with
 | [x],[p],_,hs,h=>
   refine⟨hs.1,fun hv=>?_⟩;have:=h [v] (by simp only [CN,As];exact⟨v,[],rfl,hv,rfl⟩);simp only [map_cons,map_nil,As]at this;obtain⟨v',r,e,h1,rfl⟩:=this;injection e with e _;subst e;exact h1
 | [],[],_,hs,h=>simp_all [CI,CN,NW]
 | x::y::xs,p::q::ps,_,hs,h=>
   grind [CI,Ab,NW]
theorem GW: ∀ (ow:List (List Nat)) (j:Nat) (ts:List VT) (x:RT T ts),(Ca ow j ts x).length =ts.length
 | [],_,[],_=>rfl
 | _::_,_,[],_=>rfl
 | [],j,[t],x=>rfl
 | m::ms,j,[t],x=>rfl
 | [],j,t::u::ts,x=>by simp only [Ca,length_cons,GW [] j (u::ts) x.2]
 | m::ms,j,t::u::ts,x=>by simp only [Ca,length_cons,GW ms _ (u::ts) x.2]
theorem vU {Γ:List (CE T P I)} (agt:J8 I) (abL:P.follows .mixedOrders =true) {n:Nat} {f:FuncId} {fn:Func} {body:Code} (hf:P.funcs[f]? =some fn) (hb:fn.body=some body) (abh:PL.ent P f=true) {h:Hn} {ow:List (List Nat)} {ps rs:List VT} {x:XS T ps} {r:RT T rs}
 (hr:fL Γ n fn body h ow ps rs x=some r):MT P I f (Gz ps x) (Dv ow rs r) (Ca ow 0 rs r):=by
 unfold fL at hr;split at hr
 ·rename_i hl;obtain⟨H,hw⟩:=dq (args:=Ml ps x) (n:=fn.ntmps) (fun H=>Yz ps x);refine MT.of agt abh hf hb (YC _ _ _ _ _ (by simp)) fun F hI=>?_;rw [<-TZ, <-Vp (by simp_all)];refine FR abL (fI abL n) body h _ H _ _ r hw hr F _ hI fun H' e a_ n q=>?_;have fin:sB P a_ ow rs fn.results.toList _ (fun a=>match LE a.2 with | true=>some a.1 | false=>none)=some r->Aer P a_.toSt fn.results.toList (Dv ow rs r) (Ca ow 0 rs r):=by
   intro q;obtain⟨a,⟨h1,⟨k,h2⟩,h3,h4⟩,h5⟩:=fK n.ok ow rs fn.results.toList _ _ r q;split at h5
   ·rename_i hnd;injection h5 with h5;subst h5;have hlen:(Ca ow 0 rs a.1).length =fn.results.toList.length:=by rw [GW];omega
    refine⟨a.2,h2.ns,Gu hnd,(dv (w:=default) (G:=im fun _=>False) (v:=Go.undef) (ids:=a.2) hlen h1 (fun us hu=>?_)).1,fun w G v hv=>(dv hlen h1 (fun us hu=>?_)).2 hv,h2.so⟩
    ·have:=h4 [] [] _ _ us hu;grind
    ·have:=h4 [] [] _ _ us hu;grind
   ·cases h5
  cases e<;>simp only [Aa3]at q ⊢ <;>first
   | grind
   | grind
 ·cases hr
theorem kq {pre:List OE} {n:OE} {post:List OE}:(pre++([n]++post))[pre.length]? =some n:=by simp
theorem dw (m:Nat) (k:Kd) (x:Pa T.den k) (pre post:List OE):(PO m pre.length k x).frz (pre++(Kp m k x++post))=Bk T.enc k x:=by
 cases k with
 | t_ E=>
   match m with
   | 0=>rfl
   | _+3=>rfl
   | 1=>
     show PC.frz _ (.o pre.length)=_;simp only [PC.frz,Kp,kq];rfl
   | 2=>
     show PC.frz _ (.o pre.length)=_;simp only [PC.frz,Kp,kq,OE.frz];exact congrArg (C.sl _) (QC E _ 0 x)
 | _=>rfl
theorem T0: ∀ (ms:List Nat) (ks:List Kd) (x:DK T.den ks) (pre post:List OE),(FH ms pre.length ks x).map (PC.frz (pre++(CA ms ks x++post)))=BG T.enc ks x
 | [],[],_,_,_=>by simp [FH,BG]
 | _::_,[],_,_,_=>by simp [FH,BG]
 | [],k::ks,x,pre,post=>by have:=T0 [] ks x.2 pre post;rw [Ku]at this ⊢;simp only [FH,map_cons,BG,PC.frz,this]
 | m::ms,k::ks,x,pre,post=>by have h1:=dw m k x.1 pre (CA ms ks x.2++post);have h2:=T0 ms ks x.2 (pre++Kp m k x.1) post;rw [length_append,(Mi m [] k x.1).1,(Mi m [] k x.1).2]at h2;grind [FH,CA,BG]
theorem Pk (m:List Nat) (t:VT) (x:ED T t) (pre post:List OE):(Jg m pre.length t x).frz (pre++(CA m (Fv T t) (Or t x)++post))=EE t x:=by
 cases t with
 | k kd=>
   simp only [Jg,PP.frz,EE,Fv,Or];have e1:CA m [kd] ((x,()):DK T.den [kd])=Kp (m.headD 0) kd x:=by
    cases m with
    | nil=>simp only [CA,headD_nil];unfold Kp;cases kd<;>rfl
    | cons y m=>grind [CA]
   rw [e1];exact congrArg V.c (dw (m.headD 0) kd x pre post)
 | s E=>
   simp only [Jg,PP.frz,EE,Fv,Or,T0];exact congrArg V.agg (T.aaT E x)
 | f g=>rfl
theorem T1: ∀ (ow:List (List Nat)) (ts:List VT) (x:RT T ts) (pre post:List OE),(Ca ow pre.length ts x).map (PP.frz (pre++(Dv ow ts x++post)))=Cz ts x
 | [],[],_,_,_=>by simp [Ca,Cz]
 | _::_,[],_,_,_=>by simp [Ca,Cz]
 | [],[t],x,pre,post=>by have:=Pk [] t x pre post;grind [Ku,Ca,Dv,Cz]
 | m::ms,[t],x,pre,post=>by grind [Pk,Ca,Dv,Cz]
 | [],t::u::ts,x,pre,post=>by
   have h1:=Pk [] t x.1 pre post;rw [Ku]at h1;have e:Dv [] (u::ts) x.2=[]:=by cases ts<;>rfl
   have h2:=T1 [] (u::ts) x.2 pre post;rw [e]at h2;simp only [Ca,Dv,map_cons,Cz,h1,h2]
 | m::ms,t::u::ts,x,pre,post=>by have h1:=Pk m t x.1 pre (Dv ms (u::ts) x.2++post);have h2:=T1 ms (u::ts) x.2 (pre++CA m (Fv T t) (Or t x.1)) post;grind [QI,Ca,Dv,Cz]
theorem kr (ow:List (List Nat)) (ts:List VT) (x:RT T ts):rI (Dv ow ts x) (Ca ow 0 ts x)=Jl ts x:=by
 have h:=T1 ow ts x [] [];simp only [List.length_nil,nil_append,List.append_nil]at h;unfold rI
 match ts,x,h with
 | [],x,h=>
   grind [Jl,Cz]
 | [t],x,h=>
   split
   ·rename_i p hp;rw [hp]at h;simp only [map_cons,map_nil,Cz,List.cons.injEq,and_true]at h;exact h
   ·rename_i Tg;have:=GW (T:=T) ow 0 [t] x
    match hp:Ca ow 0 [t] x,this,Tg with
    | [p],_,Tg=>grind
    | [],h,_=>cases h
    | _::_::_,h,_=>simp at h
 | t::u::ts,x,h=>
   grind [GW,Jl]
def Ag0 (Γ:List (CE T P I)) (agt:J8 I) (abL:P.follows .mixedOrders =true) (n:Nat) (f:FuncId) (fn:Func) (body:Code) (h:Hn) (ow:List (List Nat)) (ps rs:List VT) (run:XS T ps->Option (RT T rs)) (hf:P.funcs[f]? =some fn) (hb:fn.body=some body)
    (heq:run=fL Γ n fn body h ow ps rs) (abh:PL.ent P f=true:=by kernel_rfl):CE T P I where
 f:=f
 ps:=ps
 rs:=rs
 run:=run
 ok:=fun x r q=>by have hx:=vU (h:=h) agt abL hf hb abh (heq▸q);have:=hx.flat (by rw [kr];exact du _ _);rwa [kr]at this
 ow:=ow
 okx:=fun _ x r q=>vU (h:=h) agt abL hf hb abh (by rw [<-heq];exact q)
end
end Go.PL
namespace Go.PL
open Go Go.RowKit
variable {T:Bm}
theorem BW.x {P:Program} {I:World->Prop} {f:FuncId} {args:List V} {E n L:Nat} {CS:List C} (h:BW P I f args E n (fun len cs=>len=L/\cs=CS)):MT P I f args [⟨false,E,n,L,CS⟩] [.c (.o 0)]:=by
 refine⟨h.ent,rfl,fun w vs av hI hav hr=>(h.run w vs av hI hav hr).mono ?_⟩;rintro e w' ⟨v,len,cs,us,he,⟨q1,q2⟩,hp,hl,hv,hb⟩;subst q1 q2;obtain⟨ob,hfr,acy,hv⟩: ∃ ob:Option Nat,(∀ b,ob=some b->w.heap.size<=b/\b<w'.heap.size)/\v.oneCell'=true/\((∃ p,v= .slice p 0 0/\len=0/\ob=none)\/(ob=v.ownBlock/\Ai w' (im fun b=>av b\/v.ownBlock=some b) cs us/\w'.ownsRow w.heap.size E n v len us)):=by
  rcases hv with ⟨p,q1,q2⟩ | ⟨hrl,aah⟩
  ·exact⟨none,(by grind),by rw [q1];rfl,(by grind)⟩
  ·refine⟨v.ownBlock,fun b hb'=>aah.lt b hb',?_,(by grind)⟩;rcases aah.2 with ⟨q,_⟩ | ⟨g,cap,cur,q,_⟩<;>rw [q]<;>rfl
 let G:AF:=⟨fun i=>if i=[0]then ob else none,fun i=>if i=[0]then some v else none,fun b=>av b\/ob=some b⟩;have abm: ∀ i b,G.o_ i=some b->i=[0]/\ob=some b:=(by grind);refine⟨v,[[0]],G,he,rfl,by simp,?_,?_,?_,?_,?_,hb⟩
 ·grind [NW,PP.toV,PC.toC,Ab,Ae]
 ·intro e0 he0;simp only [C1,OE.ent,List.mem_singleton]at he0;subst he0;refine⟨JZ rfl ⟨hl,v,by simp [G],?_⟩,⟨rfl,fun q=>by cases q⟩,hp⟩;rcases hv with ⟨p,q1,h0,q2⟩ | ⟨q1,hrl,aah⟩
  ·grind
  ·rcases aah.2 with ⟨q,h0⟩ | ⟨g,cap,cur,q,_,k2,k3,k4,k5,k6⟩
   ·grind [Value.ownBlock]
   ·refine .inr ⟨g,cap,cur,q,by grind [Value.ownBlock],k2,k3,k4,k5,?_⟩;have hr2:Ai w' G cs us:=Ai.mono (G:=im fun b=>av b\/v.ownBlock=some b) ⟨Nat.le_refl _,fun _ _ _=>rfl,fun b _ hw=>by have hw:av b\/ob=some b:=hw;rw [q1]at hw;exact hw,fun _ _ _ _=>Co.same rfl⟩ _ _ (fun i hi=>absurd (show BU i cs=true from hi) (by rw [AQ i cs hp];simp)) hrl
    grind [Al.aau,BE,List.take_append_drop]
 ·grind
 ·grind
 ·intro b;constructor
  ·rintro(q | q)
   ·exact .inl q
   ·exact .inr ⟨[0],by grind⟩
  grind
def VO {P:Program} {I:World->Prop} (f:FuncId) (ps:List VT) (E:Nat) (run:XS T ps->Option (RT T [.k (.t_ E)])) (h: ∀ x r,run x=some r->BW P I f (Gz ps x) E (T.sz E) (fun len cs=>len=List.length (α:=T.den E) r/\cs=List.flatMap (T.enc E) r)):CE T P I where
 f:=f
 ps:=ps
 rs:=[.k (.t_ E)]
 run:=run
 ok:=fun x r hr=>BW.flat (h x r hr)
 ow:=[[1]]
 okx:=fun _ x r hr=>(h x r hr).x
end Go.PL
namespace Go.PL
open Go Go.RowKit Go.Proofs
theorem Dw (b:Nat): ∀ (vs:List Value) (o:Nat) (w:World),(w.setCells b o vs).heap.size =w.heap.size/\(w.setCells b o vs).os =w.os/\(w.setCells b o vs).tape =w.tape/\(w.setCells b o vs).output =w.output/\
 ∀ k,k ≠ b->(w.setCells b o vs).heap[k]? =w.heap[k]?
 | [],_,_=>⟨rfl,rfl,rfl,rfl,fun _ _=>rfl⟩
 | v::r,o,w=>by obtain⟨a1,a2,a3,a4,a5⟩:=Dw b r (o+1) (w.setCell ⟨b,o,none⟩ v);rw [World.setCells];refine⟨a1.trans (by simp),a2,a3,a4,fun k hk=>(a5 k hk).trans ?_⟩;simp [World.setCell,Array.getElem?_modify,Ne.symm hk]
theorem D8 (b:Nat): ∀ (vs:List Value) (o:Nat) (w:World) (cur:Array Value) (T:TypeId) (fz:Nat×Nat),w.heap[b]? =some (.cells cur T fz)->o+vs.length<=cur.size->
 ∃ ac8,(w.setCells b o vs).heap[b]? =some (.cells ac8 T fz)/\ac8.toList=cur.toList.take o++vs++cur.toList.drop (o+vs.length)
 | [],o,w,cur,T,fz,h,_=>⟨cur,h,by simp⟩
 | v::r,o,w,cur,T,fz,h,hl=>by
   simp only [length_cons]at hl;have h1:(w.setCell ⟨b,o,none⟩ v).heap[b]? =some (.cells (cur.setIfInBounds o v) T fz):=by grind [World.setCell]
   obtain⟨ac8,g1,g2⟩:=D8 b r (o+1) _ _ T fz h1 (by simp;omega);refine⟨ac8,g1,g2.trans ?_⟩;have ho:o<cur.toList.length:=by simp;omega
   rw [Array.toList_setIfInBounds,List.take_set,List.drop_set_of_lt (by omega),length_cons];rw [List.take_succ_eq_append_getElem ho];rw [List.set_append_right _ _ (by simp;omega)];simp only [List.length_take,Nat.min_eq_left (Nat.le_of_lt ho),Nat.sub_self,List.set_cons_zero,append_assoc,List.cons_append,nil_append];grind
theorem sD {α:Type} {A cs vs R:List α} {i m n:Nat} (hA:A.take i=cs.take i) (hi:i<=n) (hc:cs.length=n) (hv:vs.length=m) (hl:n+m<=A.length):
 (((A.take (i+m)++cs.drop i++R).take i++vs++(A.take (i+m)++cs.drop i++R).drop (i+m)).take (n+m))=cs.take i++vs++cs.drop i:=by
 have l1:(A.take (i+m)).length =i+m:=by grind
 have e1:(A.take (i+m)++cs.drop i++R).take i=cs.take i:=by grind
 have e2:(A.take (i+m)++cs.drop i++R).drop (i+m)=cs.drop i++R:=by grind
 rw [e1,e2, <-append_assoc];have l2:(cs.take i++vs++cs.drop i).length =n+m:=by grind
 grind
theorem sE {α:Type} {A cs vs R:List α} {i m n:Nat} (hA:A.take i=cs.take i) (hi:i<=n) (hc:cs.length=n) (hv:vs.length=m) (hl:n+m<=A.length):
 (((A.take i++vs++A.drop (i+m)).take (i+m)++cs.drop i++R).take (n+m))=cs.take i++vs++cs.drop i:=by
 have l1:(cs.take i++vs).length =i+m:=by grind
 rw [hA];have e1:(cs.take i++vs++A.drop (i+m)).take (i+m)=cs.take i++vs:=by grind
 rw [e1];have l2:(cs.take i++vs++cs.drop i).length =n+m:=by grind
 grind
theorem U8.of {P:Program} {ρ:Go.Shelf.Ren} (L:Lays2.n21 P ρ):U8 P (ρ.f 21) (ρ.t 3):=by
 intro w v n i vb m vc xs us cur T row hv hin hm ox ou hul al2 hmv hvc Tg hvb hvs;have hus: ∀ j u,us[j]? =some u->w.cell? ⟨vb,0+j,none⟩=some u:=by grind [World.cell?]
 have hvl:=hul;have grow: ∀ (base:Option Addr) (c:Nat),i=n->v= .slice base n c->n<=c->c<n+m->(base=none->n=0)->xs.length=n->(∀ a,base=some a-> ∀ j u,xs[j]? =some u->w.cell? (a.add j)=some u)->
  Calls P (ρ.f 21) #[v, .int .i64 i, .slice (some ⟨vb,0,none⟩) m vc] w fun e w'=> ∃ v',e= .returned v'/\w'.ownsRow 0 (ρ.t 3) 1 v' (n+m) (xs.take i++us++xs.drop i)/\
   w.grownBy w' row/\(v'.ownBlock=row\/ ∀ b,v'.ownBlock=some b->w.heap.size<=b):=by
  intro base c hi hv hnc hc hb hx hcs;subst hi hv;refine(Any2.slices_Insert_int_end_grow L base i c vb 0 m vc xs us w hm hnc hc al2 (by simpa using hx) hvl hb hcs hus ou).mono fun e w' ⟨he,hw⟩=>?_;refine⟨_,he,?_,?_,(by grind [Value.ownBlock])⟩
  ·rw [hw];have hge:=grownCap_ge w (i+m) c (ρ.t 3);refine⟨by simp;omega, .inr ⟨w.heap.size,_,_,rfl,zero_le _,heap_alloc_new w.drew _,hge,(by grind [grownCap_le_maxLen,maxLen]),?_,?_⟩⟩
   ·grind [Builtin.zeroCells,Value.cells]
   grind
  ·rw [hw];exact⟨rfl,rfl,rfl,by simp,fun k hk _=>heap_alloc_old w.drew _ hk⟩
 rcases hv with ⟨aah,A_⟩ | ⟨p,hv,hn,hx,A_⟩
 ·rcases aah.2 with ⟨hv,hn⟩ | ⟨g,cap,cu,hv,hbg,hg,hnc,hcm,hcs,aps⟩
  ·exact grow none 0 (by omega) (by rw [hv,hn]) (by omega) (by omega) (fun _=>hn) (by have:=aah.1;grind) (by grind)
  ·have hx:xs.length=n:=by grind
   have ad6:row=some g:=by rw [A_,hv];rfl
   have ac7:vb ≠ g:=(by grind);simp only [mul_one]at hcs aps;have abq: ∀ j u,xs[j]? =some u->w.cell? ((⟨g,0,none⟩:Addr).add j)=some u:=aah.cells (g:=g) (by rw [hv];rfl);have ana: ∀ j u,xs[j]? =some u->w.cell? ⟨g,0+j,none⟩=some u:=(by grind [Addr.add_lit]);have ath: ∀ j,j<cap->(w.cell? ⟨g,j,none⟩).isSome =true:=(by grind [World.cell?]);have hfz: ∀ j,w.frozen? ⟨g,j,none⟩=false:=(by grind [World.frozen?]);have hfv: ∀ j,w.frozen? ⟨vb,j,none⟩=false:=(by grind [World.frozen?]);have finish: ∀ (w':World) (c':Array Value),w'.heap[g]? =some (.cells c' (ρ.t 3) (0,0))->c'.toList.length=cap->n+m<=cap->c'.toList.take (n+m)=(xs.take i++us++xs.drop i)->
    w'.ownsRow 0 (ρ.t 3) 1 (.slice (some ⟨g,0,none⟩) (n+m) cap) (n+m) (xs.take i++us++xs.drop i):=fun w' c' h1 h2 h3 h4=>
    ⟨by simp;omega, .inr ⟨g,cap,c',rfl,zero_le _,h1,h3,hcm,by simpa using h2,by simpa using h4⟩⟩
   by_cases aif:n+m<=cap
   ·by_cases hi:i=n
    ·subst hi hv;refine(Any2.slices_Insert_int_end_room L g 0 i cap vb 0 m vc us w hm aif (by unfold maxLen at hcm;omega) hvl (fun j hj=>ath _ (by omega)) (fun j _=>hfz _) hus ou).mono fun e w' ⟨he,hw⟩=>?_;obtain⟨f1,f2,f3,f4,f5⟩:=Dw g us (0+i) w;obtain⟨c',g1,g2⟩:=D8 g us (0+i) w cu _ _ hg (by rw [hvl];omega);rw [<-hw]at f1 f2 f3 f4 f5 g1;refine⟨_,he,(by grind),⟨f2,f3,f4,by omega,(by grind)⟩, .inl (by rw [ad6];rfl)⟩
     all_goals grind
    ·subst hv;refine(Any2.slices_Insert_int_shift L g 0 n cap i vb 0 m vc xs us w (by omega) hm aif (by grind [maxLen]) ac7 (by grind) hvl ana (by grind) (fun j _=>hfz _) hus ox ou
      T (ρ.t 3) vc cap (by grind [World.shape?]) (by grind [World.shape?]) (by omega) (hfv _) (hfv _)).mono fun e w' ⟨he,hw⟩=>?_
     have hdl:(xs.drop i).length =n - i:=by grind
     obtain⟨f1,f2,f3,f4,f5⟩:=Dw g (xs.drop i) (0+(i+m)) w.drew;obtain⟨c1,g1,g2⟩:=D8 g (xs.drop i) (0+(i+m)) w.drew cu _ _ hg (by grind);obtain⟨k1,k2,k3,k4,k5⟩:=Dw g us (0+i) (w.drew.setCells g (0+(i+m)) (xs.drop i));have hc1:c1.toList.length=cap:=by grind
     obtain⟨c2,e1,e2⟩:=D8 g us (0+i) _ c1 _ _ g1 (by grind);rw [<-hw]at k1 k2 k3 k4 k5 e1;refine⟨_,he,finish w' c2 e1 ?_ aif ?_,⟨k2.trans f2,k3.trans f3,k4.trans f4,by simp_all,fun k _ hk=>(k5 k fun q=>hk (by rw [ad6,q])).trans (f5 k fun q=>hk (by rw [ad6,q]))⟩, .inl (by rw [ad6];rfl)⟩
     ·rw [e2];simp only [length_append,List.length_take,List.length_drop];omega
     ·rw [e2,g2,zero_add,zero_add,hvl];rw [sD (A:=cu.toList) (cs:=xs) (by grind) (by omega) (by grind) hvl (by simp;omega)]
   ·by_cases hi:i=n
    ·grind
    ·subst hv;refine(Any2.slices_Insert_int_grow L g 0 n cap i vb 0 m vc xs us w (by omega) hm hnc (by omega) al2 (by grind) hvl ana hus ox ou).mono fun e w' ⟨he,hw⟩=>?_;have hge:=grownCap_ge w (n+m) cap (ρ.t 3);have atU:=grownCap_le_maxLen w (n+m) cap (ρ.t 3) (by unfold maxLen;omega);obtain⟨C,hC⟩: ∃ C,C=grownCap w (n+m) cap (ρ.t 3):=⟨_,rfl⟩;rw [<-hC]at he hw hge atU;obtain⟨ROW,at3⟩: ∃ ROW:Array Value,ROW=(xs.take i).toArray ++Builtin.zeroCells (Value.int .i64 0).cells (n+m - i)++Builtin.zeroCells (Value.int .i64 0).cells (C - (n+m)):=⟨_,rfl⟩;rw [<-at3]at hw;have hRs:ROW.size=C:=by rw [at3];simp [Builtin.zeroCells,Value.cells];omega
     have hRt:ROW.toList.take i=xs.take i:=by grind
     have h0:(w.alloc (.cells ROW (ρ.t 3))).drew.heap[w.heap.size]? =some (.cells ROW (ρ.t 3) (0,0)):=heap_alloc_new w _;obtain⟨W1,hW1⟩: ∃ W1,W1=(w.alloc (.cells ROW (ρ.t 3))).drew :=⟨_,rfl⟩;have aqW:W1.heap.size=w.heap.size+1/\W1.os=w.os/\W1.tape=w.tape/\W1.output=w.output/\ ∀ k,k<w.heap.size->W1.heap[k]? =w.heap[k]? :=by rw [hW1];exact⟨by simp,rfl,rfl,rfl,fun k hk=>heap_alloc_old w _ hk⟩
     rw [<-hW1]at hw h0;have hdl:(xs.drop i).length =n - i:=by grind
     obtain⟨f1,f2,f3,f4,f5⟩:=Dw w.heap.size us i W1;obtain⟨c1,g1,g2⟩:=D8 w.heap.size us i W1 ROW _ _ h0 (by grind);obtain⟨k1,k2,k3,k4,k5⟩:=Dw w.heap.size (xs.drop i) (i+m) (W1.setCells w.heap.size i us).drew;have hc1:c1.toList.length=C:=by grind
     obtain⟨c2,e1,e2⟩:=D8 w.heap.size (xs.drop i) (i+m) (W1.setCells w.heap.size i us).drew c1 _ _ g1 (by grind);rw [<-hw]at k1 k2 k3 k4 k5 e1;refine⟨_,he,⟨by simp;omega, .inr ⟨w.heap.size,C,c2,rfl,zero_le _,e1,hge,atU,?_,?_⟩⟩,⟨k2.trans (f2.trans aqW.2.1),(by simp_all),k4.trans (f4.trans aqW.2.2.2.1),?_,fun k hk _=>?_⟩,(by grind [Value.ownBlock])⟩
     ·grind
     ·rw [mul_one,e2,g2,hvl];rw [sE (A:=ROW.toList) (cs:=xs) hRt (by omega) (by grind) hvl (by simp;omega)]
     ·grind
     ·rw [k5 k (by omega)];exact(f5 k (by omega)).trans (aqW.2.2.2.2 k hk)
 grind
end Go.PL
namespace Go.PL
open Go
theorem Ao {x:Int} (h0: -9223372036854775808<=x) (h1:x<=9223372036854775807):Ac x=x:=by grind [Ac,IntKind.wrap_i64]
theorem M6 {x:Int} (h0:0<=x) (h1:x<=18446744073709551615):IntKind.u64.wrap x=x:=by unfold IntKind.wrap;simp only [IntKind.bits,IntKind.signed,Bool.false_and];simp;omega
theorem sF {x:Int} (h0:0<=x) (h1:x<=255):IntKind.u8.wrap x=x:=by unfold IntKind.wrap;simp only [IntKind.bits,IntKind.signed,Bool.false_and];simp;omega
theorem nX (x:Int):0<=IntKind.u64.wrap x/\IntKind.u64.wrap x<=18446744073709551615:=by unfold IntKind.wrap;simp only [IntKind.bits,IntKind.signed,Bool.false_and];simp;omega
section
variable {σ ρ:Type} {B:σ->Option (σ⊕ρ)}
theorem Cc {n:Nat} {s s':σ} (h:B s=some (.inl s')):iter B (n+1) s=iter B n s':=by simp [iter,h]
theorem BD {n:Nat} {s:σ} {r:ρ} (h:B s=some (.inr r)):iter B (n+1) s=some r:=by simp [iter,h]
theorem kt {S:Nat->σ} {r:ρ} {j:Nat} (hs: ∀ i,i<j->B (S i)=some (.inl (S (i+1)))) (he:B (S j)=some (.inr r)): ∀ (k N i:Nat),i+k=j->k<N->iter B N (S i)=some r
 | 0,N+1,i,hi,_=>by obtain rfl:i=j:=by omega
                    exact BD he
 | k+1,N+1,i,hi,hN=>by rw [Cc (hs i (by omega))];exact kt hs he k N (i+1) (by omega) (by omega)
theorem FS (S:Nat->σ) {r:ρ} (j:Nat) (hj:j<9223372036854775807) (hs: ∀ i,i<j->B (S i)=some (.inl (S (i+1)))) (he:B (S j)=some (.inr r)) {s0:σ} (h0:s0=S 0):iter B FU s0=some r:=by subst h0;exact kt hs he j FU 0 (by omega) hj
end
section
variable {α:Type} [Inhabited α] {l:List α} {i:Int}
theorem RV (h:0<=i/\i<l.length):idx l i=some (l.getD i.toNat default):=if_pos h
theorem AD {k:Nat} (h:k<l.length):idx l (k:Int)=some l[k]:=by grind [RV]
end
theorem ku {α:Type} {b:Nat} {l m:List α} (h:(l.length+m.length)*b<=140737488355328/\l.length+m.length<=maxLen):app b l m=some (l++m):=if_pos h
theorem ID {a b:List UInt8} (h:a.length+b.length<=maxLen):cat a b=some (a++b):=if_pos h
theorem Dx {p:Prop} [Decidable p] (h:p):n_ p=some ():=if_pos h
def y7 (n:Int):UInt8:=UInt8.ofNat (48+(n.toNat % 10))
theorem M7 (k u:Nat) (h:u<10 ^ (k+1)):(Lib.decDigits u).length <=k+1:=by
 induction k generalizing u with
 | zero=>simp_all [Lib.decDigits]
 | succ k ih=>
   grind [Lib.decDigits]
theorem WC {n:Int} (h0: -9223372036854775808<=n) (h1:n<=9223372036854775807):(Lib.itoa n).length <=21:=by
 unfold Lib.itoa;split
 ·have:=M7 19 n.natAbs (by omega);simp;omega
 ·have:=M7 19 n.toNat (by omega);omega
theorem kw {u:Int} (h0:0<=u):Lib.decDigits u.toNat=(if u / 10=0 then [] else Lib.decDigits (u / 10).toNat)++[y7 u]:=by
 conv=>lhs;rw [Lib.decDigits]
 by_cases h:u.toNat<10
 ·rw [dif_pos h,if_pos (by omega),y7,Nat.mod_eq_of_lt h];rfl
 ·have e:u.toNat / 10=(u / 10).toNat :=by omega
  rw [dif_neg h,if_neg (by omega),y7,e]
def sG (u:Int) (s:List UInt8):Option ((Int×(List UInt8))⊕((List UInt8))):=
 (if(decide ((0:Int)<u)) then
  (n_ (∀ n∈([IntKind.u8.wrap (IntKind.u64.wrap ((48:Int)+(Int.tmod u (10:Int))))]:List (Int)),0<=n/\n<256)).bind fun _=>
  (cat (S1 ([IntKind.u8.wrap (IntKind.u64.wrap ((48:Int)+(Int.tmod u (10:Int))))]:List (Int))) s).bind fun s12=>
  some (.inl ((IntKind.u64.wrap (Int.tdiv u (10:Int))),s12))
 else
  some (.inr s))
def fM (a0:Int):Option ((List UInt8)):=
 (n_ (∀ n∈([IntKind.u8.wrap (IntKind.u64.wrap ((48:Int)+(Int.tmod a0 (10:Int))))]:List (Int)),0<=n/\n<256)).bind fun _=>
 (iter (fun(v:Int×(List UInt8))=>sG v.1 v.2) FU ((IntKind.u64.wrap (Int.tdiv a0 (10:Int))),(S1 ([IntKind.u8.wrap (IntKind.u64.wrap ((48:Int)+(Int.tmod a0 (10:Int))))]:List (Int))))).bind (fun o0=>some o0)
def vV (a0:Int):Option ((List UInt8)):=
 (if(decide (a0<(0:Int))) then
  (fM (IntKind.u64.wrap (0 - (IntKind.u64.wrap (a0))))).bind fun r2=>
  (cat [45] r2).bind fun s3=>
  some s3
 else
  (fM (IntKind.u64.wrap (a0))).bind fun r4=>
  some r4)
theorem qh {u:Int} (h0:0<=u) (h1:u<=18446744073709551615):IntKind.u8.wrap (IntKind.u64.wrap ((48:Int)+(Int.tmod u (10:Int))))=48+((u.toNat % 10:Nat):Int):=by grind [M6,sF]
theorem qi {u:Int} (h0:0<=u) (h1:u<=18446744073709551615):IntKind.u64.wrap (Int.tdiv u (10:Int))=u / 10:=by grind [M6]
theorem kx {u:Int} (h0:0<=u) (h1:u<=18446744073709551615): ∀ n∈([IntKind.u8.wrap (IntKind.u64.wrap ((48:Int)+(Int.tmod u (10:Int))))]:List (Int)),0<=n/\n<256:=by grind [qh]
theorem dx {u:Int} (h0:0<=u) (h1:u<=18446744073709551615):S1 ([IntKind.u8.wrap (IntKind.u64.wrap ((48:Int)+(Int.tmod u (10:Int))))]:List (Int))=[y7 u]:=by grind [qh,S1,y7]
theorem y8 {u:Int} {s:List UInt8} (h0:0<u) (h1:u<=18446744073709551615) (hs:s.length<=1000):sG u s=some (.inl (u / 10,y7 u::s)):=by unfold sG;rw [if_pos (by simpa using h0),Dx (kx (by omega) h1),dx (by omega) h1,ID (by simp [maxLen];omega),qi (by omega) h1];rfl
theorem ky (s:List UInt8):sG 0 s=some (.inr s):=by simp [sG]
theorem kz: ∀ (k:Nat) (u:Int) (s:List UInt8) (N:Nat),0<=u->u<10 ^ k->u<=18446744073709551615->s.length+k<=1000->k<N->
 iter (fun(v:Int×(List UInt8))=>sG v.1 v.2) N (u,s)=some ((if u=0 then [] else Lib.decDigits u.toNat)++s)
 | 0,u,s,N+1,h0,h1,h2,hs,hN=>by
   obtain rfl:u=0:=by grind
   grind [BD,ky]
 | k+1,u,s,N+1,h0,h1,h2,hs,hN=>by
   by_cases hu:u=0
   ·grind [BD,ky]
   ·rw [Cc (s':=(u / 10,y7 u::s)) (y8 (by omega) h2 (by show s.length<=1000;omega)),kz k (u / 10) (y7 u::s) N (by omega) (by grind) (by omega) (by simp;omega) (by omega)];simp_all [kw]
theorem dy {u:Int} (h0:0<=u) (h1:u<=18446744073709551615):fM u=some (Lib.decDigits u.toNat):=by unfold fM;rw [Dx (kx h0 h1),dx h0 h1,qi h0 h1];simp only [Option.bind_some];rw [kz 20 (u / 10) [y7 u] FU (by omega) (by omega) (by omega) (by simp) (by simp [FU])];grind [kw]
theorem vW {n:Int} (h0: -9223372036854775808<=n) (h1:n<=9223372036854775807):vV n=some (Lib.itoa n):=by
 have wu: ∀ x:Int,IntKind.u64.wrap x=x % 18446744073709551616:=by grind [IntKind.wrap,IntKind.bits,IntKind.signed]
 unfold vV Lib.itoa;by_cases hn:n<0
 ·rw [if_pos (by simpa using hn),if_pos hn];have e:IntKind.u64.wrap (0 - IntKind.u64.wrap n)= -n:=by grind
  rw [e,dy (by omega) (by omega)];have hl:=M7 19 (-n).toNat (by omega);grind [ID,maxLen]
 ·rw [if_neg (by simpa using hn),if_neg hn,M6 (by omega) (by omega),dy (by omega) (by omega)];rfl
end Go.PL
namespace Go.PL
open Go Go.RowKit Go.WideShapes Go.ChangeShapes
def Kv (k:IntKind) (v:Int):Prop:=(Lit.int k v).wf =true
def okB (_:Bool):Prop:=True
def okS (v:List UInt8):Prop:=v.length<=reachBytes
def sH {α:Type} (b:Nat) (ok:α->Prop) (l:List α):Prop:=l.length*b<=reachBytes/\ ∀ y∈l,ok y
section
variable {P:Program} {t e:TypeId} {n:Nat} {cs:List C}
theorem dI {k:IntKind} (hu:P.underlying t=some (.int k)) (h:Bo P n t cs): ∃ z,cs=eI k z/\Kv k z:=rj hu h
theorem dB (hu:P.underlying t=some .bool) (h:Bo P n t cs): ∃ b,cs=eB b/\okB b:=mF hu h
theorem dS (hu:P.underlying t=some .string) (h:Bo P n t cs): ∃ s,cs=eS s/\okS s:=rk hu h
theorem dL {α:Type} {enc:α->List C} {ok:α->Prop} {b:Nat} (hu:P.underlying t=some (.slice e)) (hb:P.bytesOf e=b) (hd: ∀ {n ds},Bo P n e ds-> ∃ x,ds=enc x/\ok x) (h:Bo P n t cs):
 ∃ l:List α,cs=eL enc l/\sH b ok l:=tC hu hb (fun _ _=>hd) h
theorem dA {α:Type} {m:Nat} {enc:α->List C} {ok:α->Prop} (hu:P.underlying t=some (.array m e)) (hd: ∀ {n ds},Bo P n e ds-> ∃ x,ds=enc x/\ok x) (h:Bo P n t cs):
 ∃ l:List α,l.length=m/\cs=l.flatMap enc/\ ∀ y∈l,ok y:=by
 cases n with
 | zero=>exact h.elim
 | succ n=>
   simp only [Bo,hu]at h;obtain⟨Dp,rfl,h2,h3⟩:=h;obtain⟨l,rfl,h5⟩:=W4 (fun _=>hd) h3;grind
end
section
variable {R:TypeId->List C->Prop}
theorem AJ {t:TypeId} {ts:List TypeId} {α β:Type} {e:α->List C} {E:β->List C} {ok:α->Prop} {OK:β->Prop} (hd: ∀ {ds},R t ds-> ∃ x,ds=e x/\ok x) (hr: ∀ {Dp},SU R ts Dp-> ∃ y,Dp.flatten=E y/\OK y) {Dp:List (List C)} (h:SU R (t::ts) Dp):
 ∃ p:α×β,Dp.flatten=e p.1++E p.2/\ok p.1/\OK p.2:=by
 simp only [SU]at h;obtain⟨ds,r,rfl,h1,h2⟩:=h;obtain⟨x,rfl,h3⟩:=hd h1;obtain⟨y,h4,h5⟩:=hr h2;exact⟨(x,y),by grind,h3,h5⟩
theorem Kw {Dp:List (List C)} (h:SU R [] Dp): ∃ _:Unit,Dp.flatten=[]/\True:=by simp only [SU]at h;simp_all
end
section
variable {H:Type} {enc:TypeId×Value->H} {P:Program} {W:World} {spare:Nat->Bool} {r:Reach} {base:Nat} {t:TypeId} {v:Value} {d:DataW H} {ps:List MemPlace}
theorem YD {ts:List TypeId} {ds:List (DataW H)} (h:(DataW.weightsEach P (t::ts) (d::ds)).all (· <=reachBytes)=true):(d.weights P t).all (· <=reachBytes)=true/\(DataW.weightsEach P ts ds).all (· <=reachBytes)=true:=by simp_all [DataW.weightsEach]
theorem y9 {α:Type} {e:α->List C} {ok:α->Prop} {fs:Array Field} (k:Nat) (hk:xr P k t=true) (hu:P.underlying t=some (.struct fs)) (hd: ∀ {n cs},Bo P n t cs-> ∃ x,cs=e x/\ok x)
 (hv:Value.okWide P W r base t v) (h:DataW.Trod enc P W 0 spare true t v d ps) (hw:(d.weights P t).all (· <=reachBytes)=true): ∃ x,ok x/\Ab W (im fun _=>False) (vA e x) v:=by
 obtain⟨arr,rfl,_⟩:=okWide_struct hu hv;obtain⟨fuel,h⟩:=h;obtain⟨cs,h1,h2,_⟩:=L6 (G:=im fun _=>False) (fun _ _ h=>h) k t hk fuel _ _ h hw;obtain⟨x,rfl,h4⟩:=hd h2;exact⟨x,h4,by simp only [Ab];exact⟨arr,rfl,h1⟩⟩
theorem za {α:Type} {e:α->C} {ok:α->Prop} (k:Nat) (hk:xr P k t=true) (hd: ∀ {n cs},Bo P n t cs-> ∃ x,cs=[e x]/\ok x)
 (hc:v.cells.toList=[v]) (h:DataW.Trod enc P W 0 spare true t v d ps) (hw:(d.weights P t).all (· <=reachBytes)=true): ∃ x,ok x/\Ab W (im fun _=>False) (.c (e x)) v:=by
 obtain⟨fuel,h⟩:=h;obtain⟨cs,h1,h2,_⟩:=L6 (G:=im fun _=>False) (fun _ _ h=>h) k t hk fuel _ _ h hw;obtain⟨x,rfl,h4⟩:=hd h2;grind [Ai,Ab]
theorem AcO {α:Type} {e:α->List C} {ok:List α->Prop} {u:TypeId} (n:Nat) (hk:xr P n t=true) (hu:P.underlying t=some (.slice u)) (hd: ∀ {n cs},Bo P n t cs-> ∃ x,cs=eL e x/\ok x)
 (hv:Value.okWide P W r base t v) (h:DataW.Trod enc P W 0 spare true t v d ps) (hw:(d.weights P t).all (· <=reachBytes)=true): ∃ x,ok x/\Ab W (im fun _=>False) (vL e x) v:=by
 obtain⟨a,len,cap,rfl⟩:=okWide_slice hu hv;exact za (e:=fun x:List α=> .sl x.length (x.flatMap e)) n hk hd rfl h hw
end
end Go.PL
namespace Go.PL
open Go
def W {α:Type} (o:Option α) (Q:α->Prop):Prop:= ∃ r,o=some r/\Q r
def LQ {σ ρ:Type} (I:σ->Prop) (m:σ->Nat) (s:σ) (K:ρ->Prop):σ⊕ρ->Prop:=Sum.elim (fun s'=>I s'/\m s'<m s) K
section
variable {α β σ ρ:Type} {o:Option α} {P Q':α->Prop} {f:α->Option β} {Q:β->Prop} {v:α} {g c:Bool}
theorem W.bd (h:W o P) (k: ∀ x,P x->W (f x) Q):W (o.bind f) Q:=by obtain⟨r,rfl,h2⟩:=h;exact k r h2
theorem W.lt (k: ∀ x,x=v->W (f x) Q):W ((some v).bind f) Q:=k v rfl
theorem W.if {a b:Option β} (k1:c=true->W a Q) (k2:c=false->W b Q):W (if c then a else b) Q:=by grind
theorem W.imp {Q2:α->Prop} (h:W o P) (k: ∀ x,P x->Q2 x):W o Q2:=by obtain⟨r,h1,h2⟩:=h;exact⟨r,h1,k r h2⟩
theorem kA [Inhabited α] {l:List α} {i:Nat} (h:i<l.length):l.getD i default∈l:=by grind
theorem W.idx [Inhabited α] {l:List α} {i:Int} (h:0<=i/\i<l.length):W (idx l i) (fun e=>e∈l/\e=l.getD i.toNat default/\idx l i=some e):=
 ⟨_,RV h,kA (by omega),rfl,RV h⟩
theorem W.re (h:o=some v) (k:W (f v) Q):W (o.bind f) Q:=by grind
theorem W.app {b:Nat} {l m:List α} (h:(l.length+m.length)*b<=140737488355328) (h2:l.length+m.length<=maxLen):W (app b l m) (fun e=>e=l++m):=⟨_,ku ⟨h,h2⟩,rfl⟩
theorem W.cat {a b:List UInt8} (h:a.length+b.length<=9223372036854775807):W (cat a b) (fun e=>e=a++b/\e.length=a.length+b.length):=⟨_,ID (by unfold maxLen;omega),rfl,length_append⟩
theorem W.n_ {p:Prop} [Decidable p] (h:p):W (n_ p) (fun _=>True):=⟨_,Dx h,trivial⟩
theorem W.nx {I:σ->Prop} {m:σ->Nat} {s s':σ} {K:ρ->Prop} (h:I s') (h2:m s'<m s):W (some (.inl s':σ⊕ρ)) (LQ I m s K):=⟨_,rfl,h,h2⟩
theorem W.ex {I:σ->Prop} {m:σ->Nat} {s:σ} {K:ρ->Prop} {r:ρ} (h:K r):W (some (.inr r:σ⊕ρ)) (LQ I m s K):=⟨_,rfl,h⟩
theorem vY {B:σ->Option (σ⊕ρ)} {I:σ->Prop} {m:σ->Nat} {K:ρ->Prop} (hs: ∀ s,I s->W (B s) (LQ I m s K)): ∀ (n:Nat) (s:σ),I s->m s<n->W (iter B n s) K
 | 0,_,_,h=>by omega
 | n+1,s,hI,hm=>by
   obtain⟨x,h1,h2⟩:=hs s hI;cases x with
   | inl s'=>rw [Cc h1];exact vY hs n s' h2.1 (by have:=h2.2;omega)
   | inr r=>rw [BD h1];exact⟨r,rfl,h2⟩
theorem W.it {B:σ->Option (σ⊕ρ)} {f:ρ->Option β} {s0:σ} (I:σ->Prop) (m:σ->Nat) (h0:I s0) (hm:m s0<9223372036854775807) (hs: ∀ s,I s->W (B s) (LQ I m s (fun r=>W (f r) Q))):W ((iter B FU s0).bind f) Q:=by obtain⟨r,h1,h2⟩:=vY hs FU s0 h0 hm;grind
end
theorem bz:(∀ {p:Prop} [Decidable p] {b:Bool},((if p then true else b)=true)=(p\/b=true))/\(∀ {p:Prop} [Decidable p] {b:Bool},((if p then true else b)=false)=(¬p/\b=false))/\(∀ {p:Prop} [Decidable p] {b:Bool},((if p then b else false)=true)=(p/\b=true))/\(∀ {p:Prop} [Decidable p] {b:Bool},((if p then b else false)=false)=(¬p\/b=false))/\(∀ {a:Bool},((!a)=true)=(a=false))/\(∀ {a:Bool},((!a)=false)=(a=true))/\(∀ {p:Prop} [Decidable p],(decide p=true)=p)/\(∀ {p:Prop} [Decidable p],(decide p=false)= ¬p)/\(∀ {a b:Int},((a==b)=true)=(a=b))/\(∀ {a b:Int},((a==b)=false)= ¬(a=b))/\(∀ {a b:Int},((a != b)=true)= ¬(a=b))/\(∀ {a b:Int},((a != b)=false)=(a=b))/\(∀ {a:Bool},((a==true)=true)=(a=true))/\(∀ {a:Bool},((a==true)=false)=(a=false))/\(∀ {a:Bool},((a==false)=true)=(a=false))/\(∀ {a:Bool},((a==false)=false)=(a=true))/\(∀ {a b:Bool},((a&&b)=true)=(a=true/\b=true))/\(∀ {a b:Bool},((a&&b)=false)=(a=false\/b=false))/\(∀ {a b:List UInt8},((a==b)=true)=(a=b))/\(∀ {a b:List UInt8},((a==b)=false)= ¬(a=b))/\(∀ {a b:List UInt8},((a != b)=true)= ¬(a=b))/\(∀ {a b:List UInt8},((a != b)=false)=(a=b))/\(∀ {a:Bool},(¬(a=true))=(a=false))/\(∀ {a:Bool},(¬(a=false))=(a=true))/\(∀ {p q:Prop},(¬(p\/q))=(¬p/\ ¬q)):=(by simp_all)
end Go.PL
namespace Go.PL
open Go
set_option linter.all false
theorem gdB (g q:Bool):gd g (some q)=some (g&&q):=by cases g<;>rfl
theorem zb (b q:Bool):(if b then q else false)=(b&&q):=by grind
theorem zc (b q:Bool):(if b then true else q)=(b||q):=by grind
theorem bT (b:Bool):(b==true)=b:=by simp_all
theorem bF (b:Bool):(b==false)= !b:=by grind
section
variable {α:Type} [Inhabited α] [DecidableEq α] {l m:List α} {B:Int->Option (Int⊕(Unit⊕Unit))}
theorem AcP (hl:l.length=m.length) (hB: ∀ (i:Nat) (h:i<l.length) (h':i<m.length),B (i:Int)=some (if l[i]=m[i]then .inl ((i:Int)+1)else .inr (.inl ()))) (hE:B (l.length:Int)=some (.inr (.inr ()))):
 ∀ (k i N:Nat),i+k=l.length->k<N->iter B N (i:Int)=some (if l.drop i=m.drop i then .inr ()else .inl ())
 | 0,i,N+1,hi,_=>by
   obtain rfl:i=l.length:=by omega
   grind [BD]
 | k+1,i,N+1,hi,hN=>by
   have h:i<l.length:=by omega
   have h':i<m.length:=by omega
   have:=hB i h h';rw [List.drop_eq_getElem_cons h,List.drop_eq_getElem_cons h'];by_cases he:l[i]=m[i]
   ·rw [if_pos he]at this;rw [Cc this];have e:((i:Int)+1)=((i+1:Nat):Int):=by omega
    rw [e,AcP hl hB hE k (i+1) N (by omega) (by omega)];grind
   ·rw [if_neg he]at this;rw [BD this,if_neg (fun h=>he (List.cons.inj h).1)]
end
theorem ifN (b q:Bool):(if b then some false else some q)=some (!b&&q):=by grind
theorem ifP (b q:Bool):(if b then some q else some false)=some (b&&q):=by grind
theorem aan (a b:Bool):(!a|| !(a&&b))=(!a|| !b):=by grind
section
variable {α:Type} [Inhabited α] [DecidableEq α] {l m:List α} {B:Int->Option (Int⊕(Unit⊕Unit))}
end
theorem iu {α:Type} [Inhabited α] (g:Bool) (x:α):gd g (some x)=some (if g then x else default):=by cases g<;>rfl
abbrev T {α:Type} (o:Option α):Prop:= ∃ r,o=some r
theorem vZ {α:Type} {c:Bool} {a b:Option α} (h1:T a) (h2:T b):T (if c then a else b):=by grind
theorem qj {α:Type} [Inhabited α] {l:List α} {i:Nat} (h:i<l.length):l.getD i default=l[i]:=by grind
theorem nY {α:Type} {b:Nat} {l m:List α} (h:(l.length+m.length)*b<=140737488355328) (hb:1<=b):app b l m=some (l++m):=by refine ku ⟨h,?_⟩;have:(l.length+m.length)*1<=(l.length+m.length)*b:=Nat.mul_le_mul_left _ hb;unfold maxLen;omega
end Go.PL
namespace Go.PL
open Go Go.Lib
set_option linter.all false
end Go.PL
namespace Go.PL
open Go
set_option linter.all false
def LB (k:Nat) (l:List (List UInt8)):Prop:=l.length<=k/\ ∀ y∈l,y.length<=600
theorem LB.nil {k:Nat}:LB k []:=⟨by simp,by simp⟩
theorem LB.le {k m:Nat} {l:List (List UInt8)} (h:LB k l) (hk:k<=m):LB m l:=⟨by have:=h.1;omega,h.2⟩
theorem LB.add {k:Nat} {l:List (List UInt8)} {x:List UInt8} (h:LB k l) (hx:x.length<=600):LB (k+1) (l++[x]):=by
 refine⟨by have:=h.1;simp;omega,fun y hy=>?_⟩;rw [List.mem_append,List.mem_singleton]at hy;rcases hy with hy | rfl
 ·exact h.2 y hy
 ·exact hx
def okX (b:Nat):Option (List UInt8)->Bool
 | some w=>Nat.ble w.length b
 | none=>false
theorem AeN {b:Nat} {o:Option (List UInt8)} (h:okX b o=true):W o (fun r=>r.length<=b):=by
 cases o with
 | none=>cases h
 | some w=>exact⟨w,rfl,Nat.le_of_ble_eq_true h⟩
theorem Ag1 {n b:Nat} {f:Int->Option (List UInt8)} (h:((List.range n).all fun i=>okX b (f (i:Int)))=true) {i:Nat} (hi:i<n):W (f (i:Int)) (fun r=>r.length<=b):=
 AeN (List.all_eq_true.1 h i (List.mem_range.2 hi))
theorem zd {n b:Nat} {f:Int->Option (List UInt8)} (h:((List.range n).all fun i=>okX b (f (i:Int)))=true) {i:Int} (h0:0<=i) (hi:i<n):W (f i) (fun r=>r.length<=b):=by have:=Ag1 h (i:=i.toNat) (by omega);rwa [Int.toNat_of_nonneg h0]at this
section
variable {α β:Type} {Q:β->Prop} {k:Nat} {l:List (List UInt8)} {x:List UInt8}
theorem wAp {J:List (List UInt8)->Option β} (h:LB k l) (hx:x.length<=600) (hJ: ∀ l',LB (k+1) l'->W (J l') Q) (hk:k<=1000:=by omega):W ((app 16 l ([x]:List (List UInt8))).bind J) Q:=by have h1:=h.1;refine W.bd (W.app (b:=16) (l:=l) (m:=[x]) (by simp;omega) (by unfold maxLen;simp;omega)) (fun e he=>?_);subst he;exact hJ _ (h.add hx)
theorem nZ {c:Bool} {J:List (List UInt8)->Option β} (h:LB k l) (hx:x.length<=600) (hJ: ∀ l',LB (k+1) l'->W (J l') Q) (hk:k<=1000:=by omega):W (if c then(app 16 l ([x]:List (List UInt8))).bind J else J l) Q:=
 W.if (fun _=>wAp h hx hJ hk) (fun _=>hJ _ (h.le (by omega)))
theorem QZ {a b:List UInt8} {f:List UInt8->Option β} (m:Nat) (h:a.length+b.length<=m) (hf: ∀ s,s.length=a.length+b.length->W (f s) Q) (hm:m<=100000000000:=by omega):W ((cat a b).bind f) Q:=
 W.bd (W.cat (by omega)) (fun s hs=>hf s hs.2)
def Rnd (i k:Nat) (r:(Int×List (List UInt8))⊕List (List UInt8)):Prop:= ∃ l',r= .inl ((i:Int)+1,l')/\LB (k+1) l'
theorem wRn {i:Nat} {l':List (List UInt8)} (h:LB (k+1) l') (hi:i<=100000:=by omega):W (some (.inl (Ac ((i:Int)+1),l'))) (Rnd i k):=
 ⟨_,rfl,l',by rw [Ao (by omega) (by omega)],h⟩
theorem wLp {B:Int->List (List UInt8)->Option ((Int×List (List UInt8))⊕List (List UInt8))} {f:List (List UInt8)->Option β} (n:Nat) (hl:LB k l)
 (he: ∀ l,B (n:Int) l=some (.inr l)) (hs: ∀ (i m:Nat) l,i<n->m<=k+n->LB m l->W (B (i:Int) l) (Rnd i m)) (hf: ∀ l',LB (k+n) l'->W (f l') Q) (hn:n<=1000:=by omega):
 W ((iter (fun(v:Int×List (List UInt8))=>B v.1 v.2) FU (0,l)).bind f) Q:=by
 have key: ∀ (j i N:Nat) (l:List (List UInt8)),i+j=n->j<N->LB (k+i) l-> ∃ l',LB (k+n) l'/\iter (fun(v:Int×List (List UInt8))=>B v.1 v.2) N ((i:Int),l)=some l':=by
  intro j;induction j with
  | zero=>
    intro i N l hi hN hl;obtain⟨N,rfl⟩: ∃ M,N=M+1:=⟨N - 1,by omega⟩;obtain rfl:i=n:=by omega
    exact⟨l,hl,BD (he l)⟩
  | succ j ih=>
    intro i N l hi hN hl;obtain⟨N,rfl⟩: ∃ M,N=M+1:=⟨N - 1,by omega⟩;obtain⟨r,h1,l',rfl,h2⟩:=hs i (k+i) l (by omega) (by omega) hl;obtain⟨l2,h3,h4⟩:=ih (i+1) N l' (by omega) (by omega) h2;refine⟨l2,h3,?_⟩;rw [Cc h1];exact h4
 obtain⟨l',h1,h2⟩:=key n 0 FU l (by omega) (by unfold FU;omega) hl;have h2':iter (fun(v:Int×List (List UInt8))=>B v.1 v.2) FU (0,l)=some l':=h2;rw [h2'];exact hf l' h1
end
theorem YE (sep:List UInt8) (n:Nat): ∀ {l:List (List UInt8)},(∀ y∈l,y.length<=n)->(Lib.join l sep).length <=l.length*(n+sep.length)
 | [],_=>by simp [Lib.join_nil]
 | [a],h=>by have:=h a (by simp);rw [Lib.join_one];simp;omega
 | a::b::l,h=>by
   have h1:=h a (by simp);have h2:=YE sep n (l:=b::l) (fun y hy=>h y (by simp [hy]));have e:Lib.join (a::b::l) sep=a++(sep++Lib.join (b::l) sep):=by simp [Lib.join_cons,Lib.joinTail]
   rw [e,length_append,length_append,length_cons];rw [Nat.add_mul];omega
end Go.PL
namespace Go.PL
open Go
theorem sJ {P:Program} {f:FuncId} {fn:Func} {s:ChangeSpec} {c:OpenClaim} (h0:(c.wf (OpenSpec.ofChange s))=true) (h1:(laidOutB P)=true) (h2:(mapsRowed P)=true) (h3:(fn.params.all (P.readableRec ·))=true) (h4:(namedTie P c.named s.vars)=true) (h5:((c.stops==[]))=true) (h6:((P.stops==[]))=true) (h7:((c.knobs==[]))=true) (h8:((P.stopKnobs==[]))=true) (h9:((c.inPlace==P.inPlace f))=true) (h10:((c.unfollowed==P.unfollowed f))=true) (h11:((c.recurses==P.recurses f))=true) (h12:((c.named==P.varsNamed f))=true) (h13:((c.maps==(fn.params.toList++s.plain.varTypes P).any (P.mapsRec ·)))=true) (h14:((c.ifaces==(fn.params.toList++s.plain.varTypes P).any (P.ifacesRec ·)))=true) (h15:((c.mapsOut==P.mapsAmong fn.resultTypes.toList))=true) (h16:((c.loops==(fn.params.toList++s.plain.varTypes P).any (P.loopsFrom ·)))=true) (h17:((c.wideKeys==(fn.params.toList++s.plain.varTypes P++fn.resultTypes.toList).any (P.wideKeysFrom ·)))=true) (h18:(s.vars.all (P.varReadable ·))=true) (h19:(fn.resultTypes.all (fun t=>P.readableRec t&&decide (t<P.types.size)))=true) (h20:((c.ifacesOut==fn.resultTypes.toList.any (P.ifacesRec ·)))=true) (h21:((c.loopsOut==fn.resultTypes.toList.any (P.loopsFrom ·)))=true) (h22:((c.plainKeys==P.plainKeys))=true) (h23:(c.shortTexts.isNone)=true) (h24:(P.stopsHeard)=true) (h25:(P.mayEnter)=true) (h26:((c.lifted==P.liftsFinal))=true) (h27:((P.make==some c.make))=true) (h28:(c.domain.isEmpty&&(c.kinds==[]))=true) (h29:((c.pinned==c.pinnedBy))=true) (h30:((c.veiled==(fn.params.toList++s.plain.varTypes P++fn.resultTypes.toList).any (P.veiledRec ·)))=true) (h31:(c.veiledFits P fn.params.toList (fn.params.toList++s.plain.varTypes P++fn.resultTypes.toList))=true):joinedFacts P f fn s c=true:=by simp_all [joinedFacts]
end Go.PL
namespace Go.PL
open Go
section
variable {H:Type} {enc:TypeId×Value->H}
theorem ze {a:Assume} {C:Checked} {os:Os} {f:FuncId} {fn:Func} {s:ChangeSpec} {conds:List PathCond} {apart fresh handsOn again:Bool} {X:World->Array Value->Prop}
 (hX: ∀ (w w':World) (args:Array Value),w.heap=w'.heap->X w args->X w' args)
 (own:ownKnob C.prog.godebug=none) (started:os.Started) (aqn:C.prog.inits.idxOf? f=none) (hfn:C.prog.funcs[f]? =some fn)
 (witness: ∃ (w:World) (tape:Tape) (i:Input),w.os=os/\(w.forCall tape i).Shaped C.prog/\i.vars=[]/\Input.okWide C.prog (w.forCall tape i) .any w.heap.size f i/\
  ((s.pre enc C.prog fn conds apart (w.forCall tape i).memory i.args/\X (w.forCall tape i).memory i.args)/\sizedMet enc C.prog fn (OpenSpec.ofChange s) apart (w.forCall tape i).memory i.args)/\a.holds C.prog (lone (Frame.enter C.prog f i.args .normal) [] (w.forCall tape i)))
 (contract: ∀ (W:World) (base:Nat) (args:Array Value) (ds gs:List (DataW H)) (before:List MemPlace),
  (∀ (j:Nat) t v,fn.params[j]? =some t->args[j]? =some v->Value.okWide C.prog W .any base t v)->
  DataW.Whole enc C.prog fn.params.toList s.vars apart W args.toList ds gs before->
  conds.all (PathCond.test C.prog ⟨fn.params.toList,ds,s.plain.varTypes C.prog,gs⟩)=true->
  (DataW.weightsEach C.prog (fn.params.toList++s.plain.varTypes C.prog) (ds++gs)).all (· <=reachBytes)=true->X W args->W.ShapedOpen C.prog->
  a.holds C.prog (lone (Frame.enter C.prog f args .normal) [] W)->
  Calls C.prog f args W fun e W'=> ∃ v,e= .returned v/\s.post enc C.prog fn apart fresh handsOn again W args v W'):
 ReturnsInHanded a C os f .any (fun w args=>(s.pre enc C.prog fn conds apart w args/\X w args)/\sizedMet enc C.prog fn (OpenSpec.ofChange s) apart w args) (s.post enc C.prog fn apart fresh handsOn again):=by
 refine returnsInHanded_of_calls own started aqn witness ?_;intro w tape i _ hsh _ hok alY aqV;obtain⟨_,_,_,fn',aFf,_,_,_,_,ahI⟩:=hok;have e:fn'=fn:=(by grind);subst e;obtain⟨⟨⟨ds,gs,before,hw,hc⟩,hx⟩,hz⟩:=alY;have hw':=DataW.Whole.of_heap (w':=w.forCall tape i) (by rfl) hw;refine(contract (w.forCall tape i) w.heap.size i.args ds gs before ahI hw' hc (hz.weights hw) (hX _ _ _ (by rfl) hx) hsh aqV).mono fun e W' ⟨v,he,hp⟩=>?_;grind [ChangeSpec.post_blind]
def fN {H:Type} (ss:List (List UInt8)):DataW H:= .agg (ss.map fun s=> .lit (.string s))
theorem ak {H:Type} {enc:TypeId×Value->H} {P:Program} {w:World} {base:Nat} {sp:Nat->Bool} {held:Bool} {fuel:Nat} {t e:TypeId} {n:Nat} {cs:List Value} {ss:List (List UInt8)} {p:List MemPlace}
 (ht:P.underlying t=some (.array n e)) (he:P.underlying e=some .string) (hce:P.cellsOf e=1) (hct:P.cellsOf t=n)
 (h:DataW.trod enc P w base sp held fuel t cs=some (fN ss,p)):cs=ss.map fun s=>Value.string ⟨s.toArray⟩:=by
 cases fuel with
 | zero=>simp [DataW.trod]at h
 | succ fuel=>
   simp only [DataW.trod,ht,hce,hct,mul_one]at h;split at h
   ·rename_i hl;obtain⟨xs,hm,hx⟩:=Option.map_eq_some_iff.1 h;have hxs:xs.map (·.1)=ss.map fun s=>(DataW.lit (.string s):DataW H):=by simp_all [fN]
    have hxl:xs.length=n:=by simpa using Lib.mapM_length hm
    have hzl:ss.length=n:=by have:=congrArg List.length hxs;grind
    apply List.ext_getElem?;intro i;by_cases hi:i<n
    ·obtain⟨b,hb,hf⟩:=Lib.mapM_at hm i i (by simp [hi]);obtain⟨z,hc,rfl,_⟩:=DataW.trod_string he hf;have h1:cs[i]? =some (.string z):=by have:=congrArg (·[0]?) hc;grind
     have h2:(xs.map (·.1))[i]? =some (DataW.lit (.string z.data.toList):DataW H):=by simp [hb]
     simp_all
    grind
   ·cases h
theorem RW {P:Program} {W:World} {name:String} {ss:List (List UInt8)} {rest:List (String×DataW Unit)} {g:Nat} {t e:TypeId} {n:Nat}
 (hg:P.globalNamed name=some g) (hty:(P.globals[g]?).map (·.type)=some t) (ht:P.underlying t=some (.array n e)) (he:P.underlying e=some .string) (hce:P.cellsOf e=1) (hct:P.cellsOf t=n)
 (h:laidMet P ((name,fN ss)::rest) W): ∃ T fz,W.heap[g]? =some (.cells (ss.map fun s=>Value.string ⟨s.toArray⟩).toArray T fz):=by
 obtain⟨ps,⟨g',t',cs,fuel,p,q,hg',ht',aqC,hd,_,_⟩,_⟩:=h;obtain rfl:=Option.some.inj (hg.symm.trans hg');obtain rfl:=Option.some.inj (hty.symm.trans ht');have hc:=ak ht he hce hct hd;simp only [World.var?,hg,Option.bind_some]at aqC;split at aqC
 ·rename_i c T fz hh;injection aqC with hv;subst hv;refine⟨T,fz,?_⟩;rw [hh, <-hc]
 grind
end
end Go.PL
