/- The pure logic: Tq, Tr, Ts, Tv, Tv2, PlYh, Ka, Kb, Kc, Kd, Kf, Kg, Kh, Ki, Kj, Kja, Kk, Kl, Km, Kn, Kq. -/
import Derived.Test.YthppcliidflkjaaGreatDoorTu6toTw2
import Derived.Test.YthppcliidflkjaaGreatDoorPlPftoPlYc
import Derived.Test.YthppcliidflkjaaGreatDoorPlYdtoTu5
import Derived.Shelf.Spec.SlicesInsert
import Derived.Shelf.Spec.SlicesInsertGrow
import Derived.Test.YthppcliidflkjaaGreatDoorPlRtoPlPe
import Derived.Lib.UnsafeStr
import Derived.RangeFuncLeaves
import Derived.RangeFuncRecord
set_option linter.all false
namespace Go.PL
open Go Go.RowKit
variable {T:AN}
def ET (T:AN):List (Nat×EY)→Type
 | []=>Empty
 | [x]=>RT T x.2.ts
 | x::y::r=>RT T x.2.ts⊕ET T (y::r)
def eK {α β:Type} (f:α→β):Option α→Option β
 | some x=>some (f x)
 | none=>none
def bp (st0 st':Ad T) (k:Nat):(xs:List (Nat×EY))→Option (ET T xs)
 | []=>none
 | [x]=>match Nat.beq x.1 k with
   | true=>x.2.gen st0 st'
   | false=>none
 | x::y::r=>match Nat.beq x.1 k with
   | true=>eK Sum.inl (x.2.gen st0 st')
   | false=>eK Sum.inr (bp st0 st' k (y::r))
def SD {R:Type} (st0:Ad T) (K:Nat→Ad T→Option R):(xs:List (Nat×EY))→ET T xs→Option R
 | []=>fun o=>nomatch o
 | [x]=>fun v=>match x.2.inst st0 (BA x.2.ts v)with
   | some s=>K x.1 s
   | none=>none
 | x::y::r=>Sum.elim (fun v=>match x.2.inst st0 (BA x.2.ts v)with
   | some s=>K x.1 s
   | none=>none) (SD st0 K (y::r))
def Ye:Nat→Exit
 | 0=> .ret
 | n+1=> .exit n
def I3:Exit→Option Nat
 | .ret =>some 0
 | .exit n=>some (n+1)
 | _=>none
theorem Yf {e:Exit} {k:Nat} (h:I3 e=some k):Ye k=e:=by
 cases e<;>simp only [I3,Option.some.injEq]at h<;>first
  | (subst h;rfl)
  | grind
theorem Mv {α β:Type} {f:α→β} {o:Option α} {y:β} (h:eK f o=some y): ∃ x,o=some x∧f x=y:=by
 cases o with
 | none=>cases h
 | some x=>injection h with h;grind
theorem Zu {H H':Am T} {R:Type} {st0 st':Ad T} {k:Nat} {K:Nat→Ad T→Option R} {r:R} (h0:Av H st0) (hN:Nx H st0 H' st'): ∀ {xs:List (Nat×EY)} {o:ET T xs},bp st0 st' k xs=some o→SD st0 K xs o=some r→
 ∃ s H2,Wk st'.toSt s.toSt∧Nx H st0 H2 s∧K k s=some r
 | [],o,h,_=>by cases h
 | [x],o,h,he=>by
   simp only [bp]at h
   split at h
   ·rename_i hb
    have hb:=Nat.eq_of_beq_eq_true hb
    subst hb
    simp only [SD]at he
    split at he
    ·rename_i s hi
     obtain⟨H2,n2⟩:=EY.inst_nx h0 (C2 _ _) hi
     exact⟨s,H2,EY.gen_ok h0 hN h hi,n2,he⟩
    ·cases he
   ·cases h
 | x::y::r',o,h,he=>by
   simp only [bp]at h
   split at h
   ·rename_i hb
    have hb:=Nat.eq_of_beq_eq_true hb
    subst hb
    obtain⟨v,h1,rfl⟩:=Mv h
    simp only [SD,Sum.elim_inl]at he
    split at he
    ·rename_i s hi
     obtain⟨H2,n2⟩:=EY.inst_nx h0 (C2 _ _) hi
     grind [EY.gen_ok]
    ·cases he
   ·obtain⟨v,h1,rfl⟩:=Mv h
    simp only [SD,Sum.elim_inr]at he
    exact Zu h0 hN h1 he
theorem br {σ ρ:Type} {B:σ→Option (σ⊕ρ)} {n:Nat} {s:σ} {o:ρ} (h:PL.iter B n s=some o): ∃ z,B s=some z:=by
 cases n with
 | zero=>cases h
 | succ n=>
   simp only [PL.iter]at h
   grind
section
variable {P:Program} {I:World→Prop}
def lM (Γ:List (CE T P I)) (rec:bi T) (ops:Array Oper) (dr:Bool) (fz:List Ae) (ow:List (Ae×Nat×Ae×Nat)) (il:Hl) (st:Ad T) (R:Type) (K:Ad T→Option R):Option R:=
 match dr with
 | false=>P8 Γ rec ops il ops.toList 0 (Dx fz st) R fun s=>match Uf ow s with
   | some s'=>K s'
   | none=>none
 | true=>match po il with
   | true=>Mr il 0 (Dx fz st) R fun s0=>lL Γ rec ops il (nq ops) s0 R fun s=>match Uf ow s with
     | some s'=>K s'
     | none=>none
   | false=>match Region.lexB .any ops with
     | true=>dJ Γ ops ops.toList (Dx fz st) R fun s=>match Uf ow s with
       | some s'=>K s'
       | none=>none
     | false=>none
def lN:Hn→List Ae×List (Ae×Nat×Ae×Nat)×Hl
 | .r fz ow il=>(fz,ow,il)
 | _=>([],[], .n)
def eM {R:Type} (N:Ad T→Option R) (K:Exit→Ad T→Option R) (e:Exit) (s:Ad T):Option R:=match e with
 | .normal =>N s
 | e=>K e s
def eN {R:Type} (j:Nat) (K:Exit→Ad T→Option R) (e:Exit) (s:Ad T):Option R:=match e with
 | .exit i=>match Nat.beq i j with
   | true=>K .normal s
   | false=>K (.exit i) s
 | e=>K e s
def Jg {α:Type} (h:Hn) (o:Option α):Option α:=match h with
 | .x =>none
 | _=>o
theorem C4 {α:Type} {h:Hn} {o:Option α} {x:α} (q:Jg h o=some x):o=some x:=by
 grind [Jg]
def Hj (Γ:List (CE T P I)) (rec:bi T):Code→Hn→Ad T→(R:Type)→(Exit→Ad T→Option R)→Option R
 | .skip,h,st,_,K=>Jg h (K .normal st)
 | .ret,h,st,_,K=>Jg h (K .ret st)
 | .exit j,h,st,_,K=>Jg h (K (.exit j) st)
 | .label _,h,st,_,K=>Jg h (K .normal st)
 | .scope c,h,st,R,K=>Jg h (Hj Γ rec c h st R fun e s=>match I3 e with
   | some _=>K e s
   | none=>match e with
     | .normal =>K .normal s
     | _=>none)
 | .block j c,h,st,R,K=>Jg h (Hj Γ rec c h st R (eN j K))
 | .cond c x y,h,st,R,K=>Jg h (match st.ev c with
   | .c (.k .bool b)=>if(show Bool from b)=true then Hj Γ rec x h.a st R K else Hj Γ rec y h.b st R K
   | _=>none)
 | .seq a b,h,st,R,K=>match h with
   | .j sh ha hb=>jn (fun v:RT T sh.ts=>match sh.inst st (BA sh.ts v)with
    | some s=>Hj Γ rec b hb s R K
    | none=>none) (fun j=>Hj Γ rec a ha st R (eM (fun s=>match sh.gen st s with
      | some v=>j v
      | none=>none) K))
   | .x =>none
   | h=>Hj Γ rec a h.a st R (eM (fun s=>Hj Γ rec b h.b s R K) K)
 | .region _ ops dr,h,st,R,K=>Jg h (lM Γ rec ops dr (lN h).1 (lN h).2.1 (lN h).2.2 st R (K .normal))
 | .loop c,h,st,R,K=>match h with
   | .l sh xs hb=>match sh.gen st st with
     | some v0=>(iter (fun v:RT T sh.ts=>match sh.inst st (BA sh.ts v)with
      | some s=>Hj Γ rec c hb s (RT T sh.ts⊕ET T xs) fun e s'=>match e with
        | .normal =>match sh.gen st s' with
          | some v'=>match sh.inst st (BA sh.ts v')with
            | some _=>some (.inl v')
            | none=>none
          | none=>none
        | e=>match I3 e with
          | some k=>eK Sum.inr (bp st s' k xs)
          | none=>none
      | none=>none) FU v0).bind (SD st (fun k s=>K (Ye k) s) xs)
     | none=>none
   | _=>none
 | _,_,_,_,_=>none
theorem Ah.wkQ {F:Fr} {c:Code} {st:St} {Q:Exit→St→Prop} (h:Ah P F c st (fun e s=> ∃ s',Wk s s'∧Q e s')):Ah P F c st Q:=fun a w G hR=>
 Code.wp_mono (fun _ _ _ ⟨_,G',⟨s',hwk,hq⟩,hR'⟩=>by
  obtain⟨G'',q⟩:=hwk _ _ _ _ hR'
  grind) (h a w G hR)
theorem iG {Γ:List (CE T P I)} {rec:bi T} (hfol:P.follows .mixedOrders =true) (hrec:Ww P I rec) {ops:Array Oper} {id:Nat} {dr:Bool} {fz:List Ae} {ow:List (Ae×Nat×Ae×Nat)} {il:Hl} {st:Ad T} {H:Am T} (hw:Av H st) {R:Type} {K:Ad T→Option R} {r:R}
 (hr:lM Γ rec ops dr fz ow il st R K=some r) {F:Fr} (hI:F.I=I) {Q:Exit→St→Prop} (hK: ∀ H' st',Nx H st H' st'→K st'=some r→Q .normal st'.toSt):Ah P F (.region id ops dr) st.toSt Q:=by
 obtain⟨⟨H1,n1⟩,w1⟩:=DO (l:=fz) (Nx.refl hw)
 refine Ah.wk w1 (Ah.wkQ ?_)
 have fin: ∀ H' s,Nx H1 (Dx fz st) H' s→(match Uf ow s with | some s'=>K s' | none=>none)=some r→ ∃ s',Wk s.toSt s'∧Q .normal s':=by
  intro H' s n q
  split at q
  ·rename_i s' hs
   obtain⟨⟨H2,n2⟩,w2,_⟩:=Mq (n1.trans n) hs
   grind
  ·cases q
 unfold lM at hr
 split at hr
 ·refine Ah.regionW ?_
  rw [hI]
  exact Zr hrec il _ 0 _ H1 n1.ok R _ r hr (fun s=> ∃ s',Wk s s'∧Q .normal s') (by grind)
 ·split at hr
  ·obtain⟨s0,⟨⟨H0,n0⟩,_,w0⟩,hr⟩:=D5 0 il n1.ok R _ r hr
   exact Ah.wk w0 (iF hfol hrec n0.ok hr hI (PK:=fun s=> ∃ s',Wk s s'∧Q .normal s') (fun _ h=>h) fun H' s n q=>fin H' s (n0.trans n) q)
  split at hr
  ·rename_i hl
   refine Ah.regionQ hfol hl ?_
   rw [hI]
   obtain⟨s,⟨⟨H2,n2⟩,_,w2⟩,hr⟩:=Wd (Γ:=Γ) (ops:=ops) ops.toList (Dx fz st) H1 n1.ok R _ r hr
   grind
  ·cases hr
theorem D7 {Γ:List (CE T P I)} {rec:bi T} (hfol:P.follows .mixedOrders =true) (hrec:Ww P I rec): ∀ (c:Code) (h:Hn) (st:Ad T) (H:Am T) (R:Type) (K:Exit→Ad T→Option R) (r:R),Av H st→Hj Γ rec c h st R K=some r→
 ∀ (F:Fr) (Q:Exit→St→Prop),F.I=I→(∀ H' e st',Nx H st H' st'→K e st'=some r→Q e st'.toSt)→Ah P F c st.toSt Q
 | .skip,h,st,H,R,K,r,hw,hr,F,Q,hI,hK=>Ah.skip (hK H _ st (Nx.refl hw) (C4 hr))
 | .ret,h,st,H,R,K,r,hw,hr,F,Q,hI,hK=>Ah.ret (hK H _ st (Nx.refl hw) (C4 hr))
 | .exit j,h,st,H,R,K,r,hw,hr,F,Q,hI,hK=>Ah.exit (hK H _ st (Nx.refl hw) (C4 hr))
 | .label j,h,st,H,R,K,r,hw,hr,F,Q,hI,hK=>Ah.label (hK H _ st (Nx.refl hw) (C4 hr))
 | .scope c,h,st,H,R,K,r,hw,hr,F,Q,hI,hK=>by
   refine Ah.scope (D7 hfol hrec c h st H R _ r hw (C4 hr) F _ hI fun H' e st' n q=>?_)
   cases e<;>simp only [I3]at q<;>first
    | (cases q;done)
    | exact hK H' _ st' n q
 | .block j c,h,st,H,R,K,r,hw,hr,F,Q,hI,hK=>by
   refine Ah.block (D7 hfol hrec c h st H R _ r hw (C4 hr) F _ hI fun H' e st' n q=>?_)
   cases e with
   | exit i=>
     simp only [eN]at q
     simp only [Dq]
     split at q
     ·rename_i hb
      rw [if_pos (Nat.eq_of_beq_eq_true hb)]
      grind
     ·rename_i hb
      rw [if_neg (fun e=>by simp_all)]
      grind
   | _=>exact hK H' _ st' n q
 | .cond c x y,h,st,H,R,K,r,hw,hr,F,Q,hI,hK=>by
   simp only [Hj]at hr
   replace hr:=C4 hr
   split at hr
   ·rename_i b hb
    have hev:=st.ev_toSt c
    rw [hb]at hev
    refine Ah.cond (b:=b) hev (fun e=>?_) (fun e=>?_)
    ·rw [if_pos e]at hr
     exact D7 hfol hrec x h.a st H R K r hw hr F Q hI hK
    ·rw [if_neg (by rw [show (show Bool from b)=b from rfl,e];simp)]at hr
     exact D7 hfol hrec y h.b st H R K r hw hr F Q hI hK
   ·cases hr
 | .region id ops dr,h,st,H,R,K,r,hw,hr,F,Q,hI,hK=>by
   grind [Hj,iG,C4]
 | .seq a b,h,st,H,R,K,r,hw,hr,F,Q,hI,hK=>by
   simp only [Hj]at hr
   split at hr
   ·rename_i sh ha hb
    unfold jn at hr
    refine Sj (X:=RT T sh.ts) (fun v=>match sh.inst st (BA sh.ts v)with | some s=>s.toSt | none=>st.toSt) (fun v=> ∃ s,sh.inst st (BA sh.ts v)=some s∧Hj Γ rec b hb s R K=some r) ?_ ?_
    ·refine D7 hfol hrec a ha st H R _ r hw hr F _ hI fun H' e st' n q=>?_
     cases e<;>grind [eM,CP,EY.gen_ok]
    ·rintro v ⟨s,hi,q⟩
     rw [hi]
     obtain⟨H2,n2⟩:=EY.inst_nx hw (C2 _ _) hi
     exact D7 hfol hrec b hb s H2 R K r n2.ok q F Q hI fun H' e st' n' q'=>hK H' e st' (n2.trans n') q'
   ·cases hr
   ·refine Ah.seq (D7 hfol hrec a _ st H R _ r hw hr F _ hI fun H' e st' n q=>?_)
    cases e with
    | normal=>exact D7 hfol hrec b _ st' H' R K r n.ok q F Q hI fun H'' e st'' n' q'=>hK H'' e st'' (n.trans n') q'
    | _=>exact hK H' _ st' n q
 | .loop c,h,st,H,R,K,r,hw,hr,F,Q,hI,hK=>by
   simp only [Hj]at hr
   split at hr
   ·rename_i sh xs hb
    split at hr
    ·rename_i v0 hg0
     obtain⟨o,hi,hx⟩:=bS hr
     have hinst: ∃ s,sh.inst st (BA sh.ts v0)=some s:=by
      obtain⟨z,hz⟩:=br hi
      grind
     obtain⟨s0,hs0⟩:=hinst
     refine It (fun v=>match sh.inst st (BA sh.ts v)with | some s=>s.toSt | none=>st.toSt) hi ?_ fun v z hz ho=>?_
     ·rw [hs0]
      exact EY.gen_ok hw (Nx.refl hw) hg0 hs0
     ·split at hz
      ·rename_i s hs
       obtain⟨H2,n2⟩:=EY.inst_nx hw (C2 _ _) hs
       have exits: ∀ (H':Am T) (e:Exit) (st':Ad T) (k:Nat),Nx H2 s H' st'→I3 e=some k→eK Sum.inr (bp st st' k xs)=some z→ ∃ s'',Wk st'.toSt s''∧Q e s'':=by
        intro H' e st' k n he q
        obtain⟨o',h1,h2⟩:=Mv q
        have:=ho o' h2.symm
        subst this
        obtain⟨s'',H3,w3,n3,k3⟩:=Zu (K:=fun k s=>K (Ye k) s) hw (n2.trans n) h1 hx
        grind [Yf]
       have main:=D7 hfol hrec c hb s H2 _ _ z n2.ok hz F (fun e s'=>match e with
        | .normal => ∃ v',z= .inl v'∧Wk s' (match sh.inst st (BA sh.ts v')with | some s=>s.toSt | none=>st.toSt)
        | e=> ∃ s'',Wk s' s''∧Q e s'') hI fun H' e st' n q=>by
          cases e with
          | normal=>
            simp only at q
            split at q
            ·rename_i v' hg
             split at q
             ·rename_i s1 hs1
              injection q with q
              refine⟨v',q.symm,?_⟩
              rw [hs1]
              exact EY.gen_ok hw (n2.trans n) hg hs1
             ·cases q
            ·cases q
          | ret=>grind
          | exit i=>grind
          | goto l=>cases q
          | panic ch=>cases q
          | outgrown=>cases q
       refine Ah.wkQ (main.mono fun e s' q=>?_)
       cases e with
       | normal=>exact⟨s',Wk.less (Bk.refl _),q⟩
       | _=>exact q
      ·cases hz
    ·cases hr
   ·cases hr
 | .rangeFunc ..,h,st,H,R,K,r,hw,hr,F,Q,hI,hK=>by grind [Hj]
 | .goto _,h,st,H,R,K,r,hw,hr,F,Q,hI,hK=>by grind [Hj]
 | .refuse _,h,st,H,R,K,r,hw,hr,F,Q,hI,hK=>by grind [Hj]
end
end Go.PL
namespace Go.PL
open Go Go.RowKit
variable {T:AN}
def Jh:(ts:List VT)→XS T ts→List (DV T)
 | [],_=>[]
 | t::ts,x=>Jf t x.1::Jh ts x.2
theorem SE: ∀ (ts:List VT) (x:XS T ts),AH (Jh ts x)=D0 ts x
 | [],_=>by simp only [Jh,AH,D0]
 | t::ts,x=>by simp only [Jh,AH,D0,IV,SE ts]
theorem WA {H:Am T} {n:Nat}: ∀ (ts:List VT) (x:XS T ts),BR H n (Jh ts x)
 | [],_=>by simp only [Jh,BR]
 | t::ts,x=>by simp only [Jh,BR,K9,WA ts,and_self]
def Ul (args:List (DV T)) (n:Nat):Ad T:=D2 0 args ⟨n,[],[],[],[],0⟩
theorem bt {args:List (DV T)} {n:Nat} (ha: ∀ H:Am T,BR H 0 args): ∃ H,Av H (Ul args n):=by
 let H0:Am T:=⟨fun _=> .u,fun _=>⟨[],0, .box []⟩⟩
 have h0:Av H0 (⟨n,[],[],[],[],0⟩:Ad T):=⟨fun _ _ _ hm=>by simp at hm,(by grind),(by grind),by simp⟩
 obtain⟨H,hN⟩:=JS (i:=0) (Nx.refl h0) (ha H0)
 exact⟨H,hN.ok⟩
theorem WB {args:List (DV T)} {n:Nat} (hl:args.length≤n):(Ul args n).toSt =St.start (AH args) n:=by
 obtain⟨a,b,c,d⟩:=HM args 0 (⟨n,[],[],[],[],0⟩:Ad T)
 unfold Ul
 simp only [Ad.toSt,a,b,c,d,St.start,List.map_nil,List.flatMap_nil]
 rw [PM hl]
 intro j
 rw [JT]
 simp only [Nat.zero_le,true_and,Nat.zero_add,Nat.sub_zero]
 rfl
section
variable {H:Am T} {P:Program} {I:World→Prop} {st:Ad T}
def lO (P:Program) (st:Ad T) (t:VT) (x:ResultVar):M (DL T t):= .bnd (Ze P st x) fun v=>match TV st v with
 | some w=> .sm (dG t w)
 | none=> .no
def SF (P:Program) (st:Ad T):(ts:List VT)→List ResultVar→M (RT T ts)
 | [],[]=> .ret ()
 | [t],[x]=>lO P st t x
 | t::u::ts,x::xs=> .bnd (lO P st t x) fun a=> .bnd (SF P st (u::ts) xs) fun b=> .ret (a,b)
 | _,_=> .no
theorem bu (x:ResultVar) (s:St):KI P s x=((I7 P s x).1,A1 s (I7 P s x).2):=by cases x<;>rfl
theorem Zv (hw:Av H st) (t:VT) (x:ResultVar):Yl (lO P st t x) (fun r=>(KI P st.toSt x).1∧(KI P st.toSt x).2=DZ t r):=
 Yl.bnd (PN hw x) fun v hv=>by
  obtain⟨a,b,c⟩:=hv
  split
  ·rename_i w hs
   refine Yl.sm fun r hr=>?_
   rw [bu]
   exact⟨b,by simp only;rw [c,Nk hs,Pv hr]⟩
  ·exact Yl.no
theorem WC (hw:Av H st): ∀ (ts:List VT) (xs:List ResultVar),Yl (SF P st ts xs) (fun r=>(DG P st.toSt xs).1∧(DG P st.toSt xs).2=CZ ts r∧xs.length=ts.length)
 | [],[]=>Yl.ret ⟨trivial,by simp only [DG,CZ],rfl⟩
 | [t],[x]=>(Zv hw t x).mono fun r h=>⟨⟨h.1,trivial⟩,congrArg (fun z=>[z]) h.2,rfl⟩
 | t::u::ts,x::xs=>Yl.bnd (Zv hw t x) fun a ha=>Yl.bnd (WC hw (u::ts) xs) fun b hb=>Yl.ret (by
   simp_all [DG,CZ])
 | [],_::_=>Yl.no
 | [_],[]=>Yl.no
 | [_],_::_::_=>Yl.no
 | _::_::_,[]=>Yl.no
theorem lP (hw:Av H st) {ts:List VT} {xs:List ResultVar}:Yl (SF P st ts xs) (fun r=>(Cp P st.toSt xs).1∧(Cp P st.toSt xs).2=GM ts r):=
 (WC hw ts xs).mono fun r h=>by
  obtain⟨h1,h2,h3⟩:=h
  match ts,xs,r,h1,h2,h3 with
  | [],[],r,h1,h2,_=>grind [Cp,GM,CZ]
  | [t],[x],r,h1,h2,_=>
    simp only [DG]at h1 h2
    refine⟨h1.1,?_⟩
    have:[(KI P st.toSt x).2]=[DZ t r]:=h2
    injection this
  | t::u::ts,x::y::xs,r,h1,h2,_=>grind [Cp,GM]
  | [],_::_,_,_,_,h3=>simp at h3
  | [_],[],_,_,_,h3=>simp at h3
  | [_],_::_::_,_,_,_,h3=>simp at h3
  | _::_::_,[],_,_,_,h3=>simp at h3
  | _::_::_,[_],_,_,_,h3=>simp at h3
theorem Nv: ∀ (ts:List VT) (x:RT T ts),Bv (CZ ts x)=true
 | [],_=>by simp only [CZ,Bv]
 | [t],x=>by simp only [CZ,Bv,Bool.and_true];exact Cv t x
 | t::u::ts,x=>by simp only [CZ,Bv,Cv,Nv (u::ts),Bool.and_self]
theorem bw: ∀ (ts:List VT) (x:RT T ts),(GM ts x).pure =true
 | [],_=>by simp only [GM,V.pure,Bv]
 | [t],x=>Cv t x
 | t::u::ts,x=>by grind [GM,V.pure,Nv]
def iH (Γ:List (CE T P I)):Nat→bi T
 | 0=>fun _ _ _ _ _=>none
 | n+1=>fun R c h st K=>Hj Γ (iH Γ n) c h st R K
theorem Zw {Γ:List (CE T P I)} (hfol:P.follows .mixedOrders =true): ∀ n,Ww P I (iH Γ n)
 | 0=>fun _ _ _ _ _ _ _ _ hr=>by simp [iH]at hr
 | n+1=>fun R c h st H K r hw hr F Q hI hK=>D7 hfol (Zw hfol n) c h st H R K r hw hr F Q hI hK
def nD (P:Program) (rs:List VT) (xs:List ResultVar) (e:Exit) (st:Ad T):Option (RT T rs):=match e with
 | .normal =>SF P st rs xs _ some
 | .ret =>SF P st rs xs _ some
 | _=>none
def Zx (Γ:List (CE T P I)) (n:Nat) (fn:Func) (body:Code) (h:Hn) (ps rs:List VT) (x:XS T ps):Option (RT T rs):=
 match Nat.ble (Jh ps x).length fn.ntmps with
 | true=>Hj Γ (iH Γ n) body h (Ul (Jh ps x) fn.ntmps) (RT T rs) (nD P rs fn.results.toList)
 | false=>none
theorem nE {Γ:List (CE T P I)} (hsta:Hz I) (hfol:P.follows .mixedOrders =true) {n:Nat} {f:FuncId} {fn:Func} {body:Code} (hf:P.funcs[f]? =some fn) (hb:fn.body=some body) (hent:PL.ent P f=true) {h:Hn} {ps rs:List VT} {x:XS T ps} {r:RT T rs}
 (hr:Zx Γ n fn body h ps rs x=some r):Bp P I f (D0 ps x) (· =GM rs r):=by
 unfold Zx at hr
 split at hr
 ·rename_i hl
  obtain⟨H,hw⟩:=bt (args:=Jh ps x) (n:=fn.ntmps) (fun H=>WA ps x)
  refine Bp.of hsta hent hf hb fun F hI=>?_
  rw [←SE, ←WB (by simp_all)]
  refine D7 hfol (Zw hfol n) body h _ H _ _ r hw hr F _ hI fun H' e st' n q=>?_
  have fin:SF P st' rs fn.results.toList _ some=some r→(Cp P st'.toSt fn.results.toList).1∧(Cp P st'.toSt fn.results.toList).2.pure =true∧(Cp P st'.toSt fn.results.toList).2=GM rs r:=by
   intro q
   obtain⟨v,⟨h1,h2⟩,h3⟩:=lP n.ok _ _ r q
   grind [bw]
  cases e<;>simp only [nD,YK]at q ⊢ <;>first
   | exact fin q
   | grind
 ·cases hr
def pA (Γ:List (CE T P I)) (hsta:Hz I) (hfol:P.follows .mixedOrders =true) (n:Nat) (f:FuncId) (fn:Func) (body:Code) (h:Hn) (ps rs:List VT) (run:XS T ps→Option (RT T rs)) (hf:P.funcs[f]? =some fn) (hb:fn.body=some body)
    (heq:run=Zx Γ n fn body h ps rs) (hent:PL.ent P f=true:=by kernel_rfl):CE T P I where
 f:=f
 ps:=ps
 rs:=rs
 run:=run
 ok:=fun x r q=>nE (h:=h) hsta hfol hf hb hent (by rw [←heq];exact q)
end
end Go.PL
namespace Go.PL
theorem lQ {a b:Prop} (h:a=b) (p:a):b:=h▸p
end Go.PL
namespace Go.PL
open Go Go.RowKit
structure J2 where
 den:Type
 inh:Inhabited den
 enc:den→List C
 ks:List Kd
def J2.unit:J2:=⟨Unit,⟨()⟩,fun _=>[],[]⟩
def Lm:List (Nat×J2)→Nat→J2
 | [],_=> .unit
 | (k,r)::l,E=>match Nat.beq k E with
   | true=>r
   | false=>Lm l E
structure b8 (R:Nat→J2) where
 E:Nat
 un:(R E).den →DK (fun E=>(R E).den) (R E).ks
 bd:DK (fun E=>(R E).den) (R E).ks →(R E).den
 beq:(R E).den →(R E).den →Bool
 unmk: ∀ y,un (bd y)=y
 encok: ∀ x,Bf (fun E=>(R E).enc) (R E).ks (un x)=(R E).enc x
 beqok: ∀ x y,beq x y=Co ((R E).enc x) ((R E).enc y)
def WD {R:Nat→J2}:List (b8 R)→(E:Nat)→Option {e:b8 R // e.E=E}
 | [],_=>none
 | e::l,E=>match Nat.decEq e.E E with
   | .isTrue h=>some ⟨e,h⟩
   | .isFalse _=>WD l E
theorem Dy {R:Nat→J2}: ∀ {L1:List (b8 R)} {L0:List (Nat×J2)} {E:Nat},L1.map (·.E)=L0.map (·.1)→WD L1 E=none→Lm L0 E= .unit
 | [],[],_,_,_=>rfl
 | [],_::_,_,h,_=>by simp at h
 | _::_,[],_,h,_=>by simp at h
 | e::L1,(k,r)::L0,E,h,hf=>by
   simp only [List.map_cons,List.cons.injEq]at h
   unfold WD at hf
   split at hf
   ·cases hf
   ·rename_i hne _
    have:Nat.beq k E=false:=by
     cases hb:Nat.beq k E with
     | false=>rfl
     | true=>exact absurd (h.1.trans (Nat.eq_of_beq_eq_true hb)) hne
    simp only [Lm,this]
    exact Dy h.2 hf
inductive TSel (R:Nat→J2) (E:Nat) where
 | some (e:b8 R) (h:e.E=E)
 | none (h:R E=J2.unit)
def bz {R:Nat→J2} (L1:List (b8 R)) (hn: ∀ E,WD L1 E=none→R E= .unit) (E:Nat):TSel R E:=match h:WD L1 E with
 | some e=> .some e.1 e.2
 | none=> .none (hn E h)
section
variable {R:Nat→J2} {E:Nat}
def TSel.un:TSel R E→(R E).den →DK (fun E=>(R E).den) (R E).ks
 | .some e h=>h▸e.un
 | .none h=>fun _=>h▸(():DK (fun E=>(R E).den) J2.unit.ks)
def TSel.bd:TSel R E→DK (fun E=>(R E).den) (R E).ks →(R E).den
 | .some e h=>h▸e.bd
 | .none h=>fun _=>h▸(():J2.unit.den)
def TSel.beq:TSel R E→(R E).den →(R E).den →Bool
 | .some e h=>h▸e.beq
 | .none _=>fun _ _=>true
theorem TSel.unmk (s:TSel R E) (y:DK (fun E=>(R E).den) (R E).ks):s.un (s.bd y)=y:=by
 cases s with
 | some e h=>cases h;exact e.unmk y
 | none h=>
   show h▸(():DK (fun E=>(R E).den) J2.unit.ks)=y
   have: ∀ (D:Nat→Type) (r:J2) (h:r=J2.unit) (y:DK D r.ks),h▸(():DK D J2.unit.ks)=y:=by
    intro D r h y
    subst h
    rfl
   exact this _ _ h y
theorem TSel.encok (s:TSel R E) (x:(R E).den):Bf (fun E=>(R E).enc) (R E).ks (s.un x)=(R E).enc x:=by
 cases s with
 | some e h=>cases h;exact e.encok x
 | none h=>
   have: ∀ (r:J2) (h:r=J2.unit) (x:r.den) (z:DK (fun E=>(R E).den) r.ks),Bf (fun E=>(R E).enc) r.ks z=r.enc x:=by
    intro r h x z
    subst h
    rfl
   grind
theorem TSel.beqok (s:TSel R E) (x y:(R E).den):s.beq x y=Co ((R E).enc x) ((R E).enc y):=by
 cases s with
 | some e h=>cases h;exact e.beqok x y
 | none h=>
   show true=_
   have: ∀ (r:J2) (h:r=J2.unit) (x y:r.den),true=Co (r.enc x) (r.enc y):=by
    intro r h x y
    subst h
    rfl
   grind
end
def lR (L0:List (Nat×J2)) (L1:List (b8 (Lm L0))) (hk:L1.map (·.E)=L0.map (·.1)):AN where
 den E:=(Lm L0 E).den
 inh E:=(Lm L0 E).inh
 enc E:=(Lm L0 E).enc
 ks E:=(Lm L0 E).ks
 un E:=(bz L1 (fun _ h=>Dy hk h) E).un
 bd E:=(bz L1 (fun _ h=>Dy hk h) E).bd
 beq E:=(bz L1 (fun _ h=>Dy hk h) E).beq
 unmk E:=(bz L1 (fun _ h=>Dy hk h) E).unmk
 encok E:=(bz L1 (fun _ h=>Dy hk h) E).encok
 beqok E:=(bz L1 (fun _ h=>Dy hk h) E).beqok
end Go.PL
set_option linter.all false
namespace Go.PL
open Go Go.RowKit
variable {T:AN}
section
variable {P:Program} {I:World→Prop}
end
end Go.PL
namespace Go.PL
open Go Go.RowKit
variable {T:AN}
theorem GI.x {P:Program} {I:World→Prop} {f:FuncId} {args:List V} {E n L:Nat} {CS:List C} (h:GI P I f args E n (fun len cs=>len=L∧cs=CS)):XP P I f args [⟨false,E,n,L,CS⟩] [.c (.o 0)]:=by
 refine⟨h.ent,rfl,fun w vs av hI hav hr=>(h.run w vs av hI hav hr).mono ?_⟩
 rintro e w' ⟨v,len,cs,us,he,⟨q1,q2⟩,hp,hl,hv,hb⟩
 subst q1 q2
 obtain⟨ob,hfr,hone,hv⟩: ∃ ob:Option Nat,(∀ b,ob=some b→w.heap.size≤b∧b<w'.heap.size)∧v.oneCell'=true∧((∃ p,v= .slice p 0 0∧len=0∧ob=none)∨(ob=v.ownBlock∧Ag w' (im fun b=>av b∨v.ownBlock=some b) cs us∧w'.ownsRow w.heap.size E n v len us)):=by
  rcases hv with ⟨p,q1,q2⟩ | ⟨hrl,hown⟩
  ·exact⟨none,(by grind),by rw [q1];rfl,(by grind)⟩
  ·refine⟨v.ownBlock,fun b hb'=>hown.lt b hb',?_,(by grind)⟩
   rcases hown.2 with ⟨q,_⟩ | ⟨g,cap,cur,q,_⟩<;>rw [q]<;>rfl
 let G:Au:=⟨fun i=>if i=[0]then ob else none,fun i=>if i=[0]then some v else none,fun b=>av b∨ob=some b⟩
 have hblk: ∀ i b,G.blk i=some b→i=[0]∧ob=some b:=(by grind)
 refine⟨v,[[0]],G,he,rfl,by simp,?_,?_,?_,?_,?_,hb⟩
 ·grind [Pt,PP.toV,PC.toC,Ab,Ac]
 ·intro e0 he0
  simp only [Cs,OE.ent,List.mem_singleton]at he0
  subst he0
  refine⟨FK rfl ⟨hl,v,by simp [G],?_⟩,⟨rfl,fun q=>by cases q⟩,hp⟩
  rcases hv with ⟨p,q1,h0,q2⟩ | ⟨q1,hrl,hown⟩
  ·grind
  ·rcases hown.2 with ⟨q,h0⟩ | ⟨g,cap,cur,q,_,k2,k3,k4,k5,k6⟩
   ·grind [Value.ownBlock]
   ·refine .inr ⟨g,cap,cur,q,by grind [Value.ownBlock],k2,k3,k4,k5,?_⟩
    have hr2:Ag w' G cs us:=Ag.mono (G:=im fun b=>av b∨v.ownBlock=some b) ⟨Nat.le_refl _,fun _ _ _=>rfl,fun b _ hw=>by
     have hw:av b∨ob=some b:=hw
     rw [q1]at hw;exact hw,fun _ _ _ _=>Bt.same rfl⟩ _ _ (fun i hi=>absurd (show Bd i cs=true from hi) (by rw [AE i cs hp];simp)) hrl
    grind [Ai.of_list,A0,List.take_append_drop]
 ·grind
 ·grind
 ·intro b
  constructor
  ·rintro(q | q)
   ·exact .inl q
   ·exact .inr ⟨[0],by grind⟩
  grind
def pB {P:Program} {I:World→Prop} (f:FuncId) (ps:List VT) (E:Nat) (run:XS T ps→Option (RT T [.k (.lst E)])) (h: ∀ x r,run x=some r→GI P I f (D0 ps x) E (T.sz E) (fun len cs=>len=List.length (α:=T.den E) r∧cs=List.flatMap (T.enc E) r)):CE T P I where
 f:=f
 ps:=ps
 rs:=[.k (.lst E)]
 run:=run
 ok:=fun x r hr=>GI.flat (h x r hr)
 ow:=[[1]]
 okx:=fun _ x r hr=>(h x r hr).x
end Go.PL
namespace Go.PL
open Go Go.RowKit Go.Proofs
end Go.PL
namespace Go.PL
open Go Go.RowKit
noncomputable section
inductive Kt (α:Type) where
 | lf
 | nd (l:Kt α) (x:Option α) (r:Kt α)
variable {α:Type}
def Kt.get (t:Kt α):Nat→Option α:=Kt.rec (motive:=fun _=>Nat→Option α) (fun _=>none) (fun _ x _ l r n=>Nat.rec (motive:=fun _=>Option α) x (fun m _=>Bool.rec (motive:=fun _=>Option α) (r (Nat.div m 2)) (l (Nat.div m 2)) (Nat.beq (Nat.mod m 2) 0)) n) t
def Kt.set (k:Nat) (t:Kt α) (n:Nat) (x:Option α):Kt α:=Nat.rec (motive:=fun _=>Kt α→Nat→Kt α) (fun t _=>t)
 (fun _ ih t n=>Kt.rec (motive:=fun _=>Kt α)
  (Nat.rec (motive:=fun _=>Kt α) (.nd .lf x .lf) (fun m _=>Bool.rec (motive:=fun _=>Kt α) (.nd .lf none (ih .lf (Nat.div m 2))) (.nd (ih .lf (Nat.div m 2)) none .lf) (Nat.beq (Nat.mod m 2) 0)) n)
  (fun l y r _ _=>Nat.rec (motive:=fun _=>Kt α) (.nd l x r) (fun m _=>Bool.rec (motive:=fun _=>Kt α) (.nd l y (ih r (Nat.div m 2))) (.nd (ih l (Nat.div m 2)) y r) (Nat.beq (Nat.mod m 2) 0)) n) t) k t n
theorem Kt.get_nd0 (l:Kt α) (x:Option α) (r:Kt α):(Kt.nd l x r).get 0=x:=rfl
theorem Kt.get_ndS (l:Kt α) (x:Option α) (r:Kt α) (n:Nat):(Kt.nd l x r).get (n+1)=match Nat.beq (n % 2) 0 with
 | true=>l.get (n / 2)
 | false=>r.get (n / 2):=by
 show Bool.rec (motive:=fun _=>Option α) (r.get (n / 2)) (l.get (n / 2)) (Nat.beq (n % 2) 0)=_
 cases Nat.beq (n % 2) 0<;>rfl
theorem Kt.set_lf0 (k:Nat) (x:Option α):Kt.set (k+1) .lf 0 x= .nd .lf x .lf :=rfl
theorem Kt.set_lfS (k:Nat) (n:Nat) (x:Option α):Kt.set (k+1) .lf (n+1) x=match Nat.beq (n % 2) 0 with
 | true=> .nd (Kt.set k .lf (n / 2) x) none .lf
 | false=> .nd .lf none (Kt.set k .lf (n / 2) x):=by
 show Bool.rec (motive:=fun _=>Kt α) (.nd .lf none (Kt.set k .lf (n / 2) x)) (.nd (Kt.set k .lf (n / 2) x) none .lf) (Nat.beq (n % 2) 0)=_
 cases Nat.beq (n % 2) 0<;>rfl
theorem Kt.set_nd0 (k:Nat) (l:Kt α) (y:Option α) (r:Kt α) (x:Option α):Kt.set (k+1) (.nd l y r) 0 x= .nd l x r:=rfl
theorem Kt.set_ndS (k:Nat) (l:Kt α) (y:Option α) (r:Kt α) (n:Nat) (x:Option α):Kt.set (k+1) (.nd l y r) (n+1) x=match Nat.beq (n % 2) 0 with
 | true=> .nd (Kt.set k l (n / 2) x) y r
 | false=> .nd l y (Kt.set k r (n / 2) x):=by
 show Bool.rec (motive:=fun _=>Kt α) (.nd l y (Kt.set k r (n / 2) x)) (.nd (Kt.set k l (n / 2) x) y r) (Nat.beq (n % 2) 0)=_
 cases Nat.beq (n % 2) 0<;>rfl
def Kt.put (t:Kt α) (n:Nat) (x:Option α):Kt α:=Kt.set (n+1) t n x
theorem Kt.get_lf (n:Nat):(Kt.lf:Kt α).get n=none:=rfl
theorem Kt.get_set: ∀ (k:Nat) (t:Kt α) (n:Nat) (x:Option α) (m:Nat),n<k→(Kt.set k t n x).get m=if m=n then x else t.get m
 | 0,_,_,_,_,h=>by omega
 | k+1,t,n,x,m,h=>by
   have hb: ∀ a:Nat,Nat.beq (a % 2) 0=true↔a % 2=0:=fun a=>by simp
   cases t<;>cases n
   ·rw [Kt.set_lf0]
    cases m
    ·rw [Kt.get_nd0];simp
    ·rw [Kt.get_ndS,if_neg (by omega)]
     split<;>rfl
   ·rename_i n
    have ih:=fun y=>Kt.get_set k (.lf :Kt α) (n / 2) x y (by omega)
    rw [Kt.set_lfS]
    split<;>rename_i hq<;>cases m
    ·rw [Kt.get_nd0,if_neg (by omega)];rfl
    ·rename_i m
     rw [Kt.get_ndS]
     split<;>rename_i hm
     ·rw [ih]
      have:=(hb n).1 hq
      have:=(hb m).1 hm
      by_cases e:m=n
      ·simp [e]
      ·rw [if_neg (by omega),if_neg (by omega)];rfl
     ·rw [if_neg (fun e=>by simp_all)];rfl
    ·rw [Kt.get_nd0,if_neg (by omega)];rfl
    ·rename_i m
     rw [Kt.get_ndS]
     split<;>rename_i hm
     ·rw [if_neg (fun e=>by simp_all)];rfl
     ·rw [ih]
      have h1: ¬n % 2=0:=fun e=>by simp_all
      have h2: ¬m % 2=0:=fun e=>by simp_all
      by_cases e:m=n
      ·simp [e]
      ·rw [if_neg (by omega),if_neg (by omega)];rfl
   ·rw [Kt.set_nd0]
    cases m
    ·rw [Kt.get_nd0];simp
    ·rw [Kt.get_ndS,Kt.get_ndS,if_neg (by omega)]
   ·rename_i l y r n
    have ih:=fun(t:Kt α) z=>Kt.get_set k t (n / 2) x z (by omega)
    rw [Kt.set_ndS]
    split<;>rename_i hq<;>cases m
    ·rw [Kt.get_nd0,Kt.get_nd0,if_neg (by omega)]
    ·rename_i m
     rw [Kt.get_ndS,Kt.get_ndS]
     split<;>rename_i hm
     ·rw [ih]
      have:=(hb n).1 hq
      have:=(hb m).1 hm
      by_cases e:m=n
      ·simp [e]
      ·rw [if_neg (by omega),if_neg (by omega)]
     ·rw [if_neg (fun e=>by simp_all)]
    ·rw [Kt.get_nd0,Kt.get_nd0,if_neg (by omega)]
    ·rename_i m
     rw [Kt.get_ndS,Kt.get_ndS]
     split<;>rename_i hm
     ·rw [if_neg (fun e=>by simp_all)]
     ·rw [ih]
      have h1: ¬n % 2=0:=fun e=>by simp_all
      have h2: ¬m % 2=0:=fun e=>by simp_all
      by_cases e:m=n
      ·simp [e]
      ·rw [if_neg (by omega),if_neg (by omega)]
theorem Kt.get_put (t:Kt α) (n:Nat) (x:Option α) (m:Nat):(t.put n x).get m=if m=n then x else t.get m:=Kt.get_set _ t n x m (Nat.lt_succ_self n)
inductive Kc where
 | i (k:IntKind) (n:Int)
 | b (x:Bool)
 | s (l:List UInt8)
 | z (v:Value)
 | p (id off:Nat)
 | l (id N off len rm:Nat)
 | e
 | f (f:FuncId) (fi ca:List Kc)
 | g (g off:Nat)
 | u
inductive Kv where
 | c (x:Kc)
 | a (cs:List Kc)
 | t (vs:List Kv)
 | sk
 | u
structure Kg where
 blk:Nat→Option Nat
 cap:Nat→Option Nat
 df:List Deferred
def Kg.dd (G:Kg) (ds:List Deferred):Kg:=⟨G.blk,G.cap,ds⟩
structure Kg.le (G G':Kg):Prop where
 blk: ∀ i b,G.blk i=some b→G'.blk i=some b
 cap: ∀ i b,G.cap i=some b→G'.cap i=some b
theorem Kg.le_dd (G:Kg) (ds:List Deferred):G.le (G.dd ds):=⟨fun _ _ h=>h,fun _ _ h=>h⟩
theorem Kg.le.refl (G:Kg):G.le G:=⟨fun _ _ h=>h,fun _ _ h=>h⟩
theorem Kg.le.trans {A B D:Kg} (h:A.le B) (k:B.le D):A.le D:=⟨fun i b q=>k.blk i b (h.blk i b q),fun i b q=>k.cap i b (h.cap i b q)⟩
mutual
def KC (G:Kg):Kc→Value→Prop
 | .i k n,v=>v= .int k n
 | .b x,v=>v= .bool x
 | .s l,v=>v= .string ⟨l.toArray⟩
 | .z x,v=>v=x∧v.oneCell'=true
 | .p id off,v=> ∃ b,G.blk id=some b∧v= .pointer (some ⟨b,off,none⟩)
 | .l id N off len rm,v=> ∃ b cap o,G.blk id=some b∧G.cap id=some cap∧len≤rm∧off+rm≤cap∧((off<cap∨off=0)→o=off*N)∧v= .slice (some ⟨b,o,none⟩) len (cap - off)
 | .e,v=> ∃ p,v= .slice p 0 0
 | .f f fi ca,v=> ∃ x y:Array Value,v= .func (.func f) x y∧KL G fi x.toList∧KL G ca y.toList
 | .g g off,v=>v= .pointer (some ⟨g,off,none⟩)
 | .u,v=>v.oneCell'=true
def KL (G:Kg):List Kc→List Value→Prop
 | [],vs=>vs=[]
 | c::cs,vs=> ∃ v r,vs=v::r∧KC G c v∧KL G cs r
end
mutual
def KV (G:Kg):Kv→Value→Prop
 | .c x,v=>KC G x v
 | .a cs,v=> ∃ arr:Array Value,v= .agg arr∧KL G cs arr.toList
 | .t vs,v=> ∃ arr:Array Value,v= .tuple arr∧Hr G vs arr.toList
 | .sk,v=>v=Go.undef
 | .u,_=>True
def Hr (G:Kg):List Kv→List Value→Prop
 | [],vs=>vs=[]
 | x::xs,vs=> ∃ v r,vs=v::r∧KV G x v∧Hr G xs r
end
mutual
theorem KC.mono {G G':Kg} (hg:G.le G'): ∀ {c:Kc} {v:Value},KC G c v→KC G' c v
 | .i ..,_,h=>h
 | .b ..,_,h=>h
 | .s ..,_,h=>h
 | .z ..,_,h=>h
 | .p ..,_,⟨b,h1,h2⟩=>⟨b,hg.blk _ _ h1,h2⟩
 | .l ..,_,⟨b,cap,o,h1,h2,h3⟩=>⟨b,cap,o,hg.blk _ _ h1,hg.cap _ _ h2,h3⟩
 | .e,_,h=>h
 | .f ..,_,⟨x,y,h1,h2,h3⟩=>⟨x,y,h1,KL.mono hg h2,KL.mono hg h3⟩
 | .g ..,_,h=>h
 | .u,_,h=>h
theorem KL.mono {G G':Kg} (hg:G.le G'): ∀ {cs:List Kc} {vs:List Value},KL G cs vs→KL G' cs vs
 | [],_,h=>h
 | _::_,_,⟨v,r,h1,h2,h3⟩=>⟨v,r,h1,KC.mono hg h2,KL.mono hg h3⟩
end
mutual
theorem KV.mono {G G':Kg} (hg:G.le G'): ∀ {x:Kv} {v:Value},KV G x v→KV G' x v
 | .c _,_,h=>KC.mono hg h
 | .a _,_,⟨arr,h1,h2⟩=>⟨arr,h1,KL.mono hg h2⟩
 | .t _,_,⟨arr,h1,h2⟩=>⟨arr,h1,Hr.mono hg h2⟩
 | .sk,_,h=>h
 | .u,_,_=>trivial
theorem Hr.mono {G G':Kg} (hg:G.le G'): ∀ {xs:List Kv} {vs:List Value},Hr G xs vs→Hr G' xs vs
 | [],_,h=>h
 | _::_,_,⟨v,r,h1,h2,h3⟩=>⟨v,r,h1,KV.mono hg h2,Hr.mono hg h3⟩
end
theorem KC.one {G:Kg} {c:Kc} {v:Value} (h:KC G c v):v.oneCell'=true:=by
 cases c<;>simp only [KC]at h<;>grind [Value.oneCell']
section
variable {G:Kg}
theorem KL.one: ∀ {cs:List Kc} {vs:List Value},KL G cs vs→ ∀ v∈vs,v.oneCell'=true
 | [],_,h,v,hv=>by simp only [KL]at h;subst h;simp at hv
 | c::cs,_,⟨x,r,h1,h2,h3⟩,v,hv=>by
   subst h1
   rcases List.mem_cons.1 hv with rfl | q
   ·exact h2.one
   ·exact KL.one h3 v q
theorem KL.len: ∀ {cs:List Kc} {vs:List Value},KL G cs vs→cs.length=vs.length
 | [],_,h=>by simp only [KL]at h;subst h;rfl
 | c::cs,_,⟨x,r,h1,_,h3⟩=>by subst h1;simp [KL.len h3]
theorem Hr.len: ∀ {cs:List Kv} {vs:List Value},Hr G cs vs→cs.length=vs.length
 | [],_,h=>by simp only [Hr]at h;subst h;rfl
 | c::cs,_,⟨x,r,h1,_,h3⟩=>by subst h1;simp [Hr.len h3]
theorem KL.append: ∀ {cs ds:List Kc} {us vs:List Value},KL G cs us→KL G ds vs→KL G (cs++ds) (us++vs)
 | [],_,_,_,h,h2=>by simp only [KL]at h;subst h;exact h2
 | c::cs,_,_,_,⟨x,r,h1,h3,h4⟩,h2=>by subst h1;exact⟨x,_,rfl,h3,KL.append h4 h2⟩
theorem KL.take: ∀ {cs:List Kc} {vs:List Value} (n:Nat),KL G cs vs→KL G (cs.take n) (vs.take n)
 | [],_,n,h=>by simp only [KL]at h;subst h;simp [KL]
 | c::cs,_,0,_=>by simp [KL]
 | c::cs,_,n+1,⟨x,r,h1,h3,h4⟩=>by subst h1;exact⟨x,_,rfl,h3,KL.take n h4⟩
theorem KL.drop: ∀ {cs:List Kc} {vs:List Value} (n:Nat),KL G cs vs→KL G (cs.drop n) (vs.drop n)
 | [],_,n,h=>by simp only [KL]at h;subst h;simp [KL]
 | c::cs,_,0,h=>h
 | c::cs,_,n+1,⟨x,r,h1,h3,h4⟩=>by subst h1;exact KL.drop n h4
theorem KL.get: ∀ {cs:List Kc} {vs:List Value} {i:Nat} {c:Kc},KL G cs vs→cs[i]? =some c→ ∃ v,vs[i]? =some v∧KC G c v
 | [],_,_,_,_,h=>by simp at h
 | c::cs,_,0,_,⟨x,r,h1,h3,h4⟩,h=>by subst h1;simp at h;subst h;exact⟨x,by simp,h3⟩
 | c::cs,_,i+1,_,⟨x,r,h1,h3,h4⟩,h=>by subst h1;simpa using KL.get (i:=i) h4 (by simpa using h)
theorem Hr.get: ∀ {cs:List Kv} {vs:List Value} {i:Nat} {c:Kv},Hr G cs vs→cs[i]? =some c→ ∃ v,vs[i]? =some v∧KV G c v
 | [],_,_,_,_,h=>by simp at h
 | c::cs,_,0,_,⟨x,r,h1,h3,h4⟩,h=>by subst h1;simp at h;subst h;exact⟨x,by simp,h3⟩
 | c::cs,_,i+1,_,⟨x,r,h1,h3,h4⟩,h=>by subst h1;simpa using Hr.get (i:=i) h4 (by simpa using h)
theorem Hr.append: ∀ {cs ds:List Kv} {us vs:List Value},Hr G cs us→Hr G ds vs→Hr G (cs++ds) (us++vs)
 | [],_,_,_,h,h2=>by simp only [Hr]at h;subst h;exact h2
 | c::cs,_,_,_,⟨x,r,h1,h3,h4⟩,h2=>by subst h1;exact⟨x,_,rfl,h3,Hr.append h4 h2⟩
theorem Hr.ofL: ∀ {cs:List Kc} {vs:List Value},KL G cs vs→Hr G (cs.map Kv.c) vs
 | [],_,h=>by simp only [KL]at h;subst h;rfl
 | c::cs,_,⟨x,r,h1,h3,h4⟩=>by subst h1;exact⟨x,_,rfl,h3,Hr.ofL h4⟩
def Kv.cells:Kv→Option (List Kc)
 | .c x=>some [x]
 | .a cs=>some cs
 | _=>none
theorem KV.cells {x:Kv} {v:Value} {cs:List Kc} (h:KV G x v) (hc:x.cells=some cs):KL G cs v.cells.toList:=by
 unfold Kv.cells at hc
 split at hc
 ·injection hc with hc;subst hc
  simp only [KV]at h
  have h1:=h.one
  have:v.cells= #[v]:=by cases v<;>first | rfl | (simp [Value.oneCell']at h1)
  rw [this]
  exact⟨v,[],rfl,h,rfl⟩
 ·injection hc with hc;subst hc
  obtain⟨arr,rfl,h2⟩:=h
  exact h2
 ·cases hc
end
def iI (n:Nat) (l:List Kc):List Kc:=Nat.rec (motive:=fun _=>List Kc→List Kc) (fun l=>l) (fun _ ih l=>List.rec (motive:=fun _=>List Kc) [] (fun _ t _=>ih t) l) n l
def Um (c:Kc) (o:Option (List Kc)):Option (List Kc):=Option.rec (motive:=fun _=>Option (List Kc)) none (fun l=>some (c::l)) o
def oB (n:Nat) (l:List Kc):Option (List Kc):=Nat.rec (motive:=fun _=>List Kc→Option (List Kc)) (fun _=>some []) (fun _ ih l=>List.rec (motive:=fun _=>Option (List Kc)) none (fun c t _=>Um c (ih t)) l) n l
def iJ (n:Nat) (xs l:List Kc):Option (List Kc):=Nat.rec (motive:=fun _=>List Kc→Option (List Kc)) (fun _=>some xs) (fun _ ih l=>List.rec (motive:=fun _=>Option (List Kc)) none (fun c t _=>Um c (ih t)) l) n l
def iK (xs l:List Kc):Option (List Kc):=List.rec (motive:=fun _=>List Kc→Option (List Kc)) (fun l=>some l) (fun x _ ih l=>List.rec (motive:=fun _=>Option (List Kc)) none (fun _ t _=>Um x (ih t)) l) xs l
def bA (n:Nat) (xs l:List Kc):Option (List Kc):=Nat.rec (motive:=fun _=>List Kc→Option (List Kc)) (fun l=>iK xs l) (fun _ ih l=>List.rec (motive:=fun _=>Option (List Kc)) none (fun c t _=>Um c (ih t)) l) n l
theorem N5 {c:Kc} {o:Option (List Kc)} {r:List Kc} (h:Um c o=some r): ∃ l,o=some l∧r=c::l:=by
 cases o with
 | none=>cases h
 | some l=>exact⟨l,rfl,by injection h with h;exact h.symm⟩
theorem N6: ∀ (n:Nat) (l:List Kc),iI n l=l.drop n
 | 0,l=>by simp;rfl
 | n+1,[]=>rfl
 | n+1,c::l=>by
   have:=N6 n l
   exact this
theorem Yg: ∀ {n:Nat} {l r:List Kc},oB n l=some r→r=l.take n∧n≤l.length
 | 0,l,r,h=>by injection h with h;subst h;simp
 | n+1,[],r,h=>by cases h
 | n+1,c::l,r,h=>by
   obtain⟨t,h1,rfl⟩:=N5 (show Um c (oB n l)=some r from h)
   obtain⟨k1,k2⟩:=Yg h1
   exact⟨by rw [k1];rfl,by simpa using k2⟩
theorem Un: ∀ {n:Nat} {xs l r:List Kc},iJ n xs l=some r→r=l.take n++xs∧n≤l.length
 | 0,xs,l,r,h=>by injection h with h;subst h;simp
 | n+1,xs,[],r,h=>by cases h
 | n+1,xs,c::l,r,h=>by
   obtain⟨t,h1,rfl⟩:=N5 (show Um c (iJ n xs l)=some r from h)
   obtain⟨k1,k2⟩:=Un h1
   exact⟨by rw [k1];rfl,by simpa using k2⟩
theorem Zy: ∀ {xs l r:List Kc},iK xs l=some r→r=xs++l.drop xs.length∧xs.length≤l.length
 | [],l,r,h=>by injection h with h;subst h;simp
 | x::xs,[],r,h=>by cases h
 | x::xs,c::l,r,h=>by
   obtain⟨t,h1,rfl⟩:=N5 (show Um x (iK xs l)=some r from h)
   obtain⟨k1,k2⟩:=Zy h1
   exact⟨by rw [k1];simp,by simpa using k2⟩
theorem I4: ∀ {n:Nat} {xs l r:List Kc},bA n xs l=some r→r=l.take n++xs++l.drop (n+xs.length)∧n+xs.length≤l.length
 | 0,xs,l,r,h=>by
   obtain⟨k1,k2⟩:=Zy (show iK xs l=some r from h)
   exact⟨by simp [k1],by simpa using k2⟩
 | n+1,xs,[],r,h=>by cases h
 | n+1,xs,c::l,r,h=>by
   obtain⟨t,h1,rfl⟩:=N5 (show Um c (bA n xs l)=some r from h)
   obtain⟨k1,k2⟩:=I4 h1
   refine⟨?_,by simp;omega⟩
   rw [k1,show n+1+xs.length=(n+xs.length)+1 by omega]
   simp
def mH:Value→Kc
 | .int k n=> .i k n
 | .bool x=> .b x
 | .string s=> .s s.data.toList
 | v=> .z v
def eO:Value→Bool
 | .agg _=>false
 | .tuple _=>false
 | _=>true
def lS:Value→Kv
 | .agg cs=>match cs.toList.all eO with
   | true=> .a (cs.toList.map mH)
   | false=> .u
 | .tuple _=> .u
 | v=> .c (mH v)
theorem eP {G:Kg} {v:Value} (h:eO v=true):KC G (mH v) v:=by
 cases v<;>simp [eO]at h<;>simp [mH,KC,Value.oneCell']
theorem Uo {G:Kg}: ∀ {vs:List Value},vs.all eO=true→KL G (vs.map mH) vs
 | [],_=>rfl
 | v::vs,h=>by
   simp only [List.all_cons,Bool.and_eq_true]at h
   exact⟨v,vs,rfl,eP h.1,Uo h.2⟩
theorem iL {G:Kg} (v:Value):KV G (lS v) v:=by
 cases v<;>simp only [lS]
 case agg cs=>
  split
  ·rename_i h;exact⟨cs,rfl,Uo h⟩
  ·trivial
 case tuple=>trivial
 all_goals exact eP rfl
def gt (tm:Kt Kv) (i:Nat):Kv:=match tm.get i with
 | some v=>v
 | none=> .u
structure SK (n:Nat) (tm:Kt Kv) (a:Act) (G:Kg):Prop where
 dfr:a.defers=G.df
 size:a.tmps.size=n
 sl: ∀ i,KV G (gt tm i) (a.tmps.getD i Go.undef)
theorem SK.mono {n:Nat} {tm:Kt Kv} {a:Act} {G G':Kg} (hg:G.le G') (hd:G'.df=G.df) (h:SK n tm a G):SK n tm a G':=⟨h.dfr.trans hd.symm,h.size,fun i=>(h.sl i).mono hg⟩
def iM (n:Nat) (tm:Kt Kv) (d:Option Nat) (v:Kv):Option (Kt Kv):=match d with
 | none=>some tm
 | some d=>match Nat.blt d n with
   | true=>some (tm.put d (some v))
   | false=>none
theorem SK.put {n:Nat} {tm tm':Kt Kv} {a:Act} {G:Kg} (h:SK n tm a G) {d:Option Nat} {x:Kv} {v:Value} (hx:KV G x v) (hp:iM n tm d x=some tm'):SK n tm' (a.put d v) G:=by
 unfold iM at hp
 split at hp
 ·injection hp with hp;subst hp;exact h
 ·rename_i d
  split at hp
  ·rename_i hd
   injection hp with hp;subst hp
   have hd:d<n:=by simpa using hd
   refine⟨h.dfr,by simp [Act.put,h.size],fun i=>?_⟩
   have hi:=h.sl i
   simp only [gt,Kt.get_put,Act.put,Array.getD_eq_getD_getElem?,Array.getElem?_setIfInBounds]at hi ⊢
   by_cases e:d=i
   ·subst e
    simp [h.size,hd];exact hx
   ·rw [if_neg (Ne.symm e),if_neg e];exact hi
  ·cases hp
def E5 (tm:Kt Kv):Operand→Kv
 | .tmp t=>gt tm t
 | .const v=>lS v
 | .func f=> .c (.f f [] [])
 | .global g=> .c (.g g 0)
theorem SK.ev {n:Nat} {tm:Kt Kv} {a:Act} {G:Kg} (h:SK n tm a G) (x:Operand):KV G (E5 tm x) (a.eval x):=by
 cases x with
 | tmp t=>exact h.sl t
 | const v=>exact iL v
 | func f=>exact⟨#[], #[],rfl,rfl,rfl⟩
 | global g=>rfl
theorem SK.evs {n:Nat} {tm:Kt Kv} {a:Act} {G:Kg} (h:SK n tm a G): ∀ xs:List Operand,Hr G (xs.map (E5 tm)) (xs.map a.eval)
 | []=>rfl
 | x::xs=>⟨_,_,rfl,h.ev x,h.evs xs⟩
end
end Go.PL
namespace Go.PL
open Go Go.RowKit
noncomputable section
structure Ke where
 row:Option (Nat×Nat)
 cs:List Kc
 ro:Bool:=false
def Up (w:World) (G:Kg) (id:Nat) (e:Ke):Prop:=
 ∃ b T cur fz,(e.ro=false→fz=(0,0))∧G.blk id=some b∧w.heap[b]? =some (.cells cur T fz)∧e.cs.length≤cur.size∧KL G e.cs (cur.toList.take e.cs.length)∧
   match e.row with
   | none=>True
   | some (E,N)=>T=E∧(N=0→cur.size=e.cs.length)∧(0<N→ ∃ cap,G.cap id=some cap∧cur.size=cap*N∧cap≤maxLen)
structure KF where
 w0:World
 I:World→Prop
structure HK (F:KF) (c:Nat) (h:Kt Ke) (w:World) (G:Kg):Prop where
 ent: ∀ i e,h.get i=some e→Up w G i e
 inj: ∀ i j e d b,h.get i=some e→h.get j=some d→G.blk i=some b→G.blk j=some b→i=j
 new: ∀ i e b,h.get i=some e→G.blk i=some b→F.w0.heap.size≤b
 fr: ∀ i,c≤i→G.blk i=none∧G.cap i=none
 inv: ∀ w',F.w0.heap.size≤w'.heap.size→(∀ b,b<F.w0.heap.size→w'.heap[b]? =F.w0.heap[b]?)→F.I w'
 out:Dc F.w0 w
 hsize:F.w0.heap.size≤w.heap.size
 ext: ∀ b,b<F.w0.heap.size→w.heap[b]? =F.w0.heap[b]?
structure C9 (h:Kt Ke) (G:Kg) (w:World) (h':Kt Ke) (G':Kg) (w':World):Prop where
 le:G.le G'
 size:w.heap.size≤w'.heap.size
 frm: ∀ b,b<w.heap.size→(∀ i e,h.get i=some e→G.blk i ≠ some b)→w'.heap[b]? =w.heap[b]?
 own: ∀ i e b,h'.get i=some e→G'.blk i=some b→w.heap.size≤b∨ ∃ j d,h.get j=some d∧G.blk j=some b
 out:Dc w w'
 df:G'.df=G.df
def Kp (c:Nat) (G G':Kg):Prop:= ∀ i,i<c→G'.blk i=G.blk i∧G'.cap i=G.cap i
theorem jK (w:World):Dc w w:=⟨rfl,rfl,rfl⟩
theorem SG {a b c:World} (h:Dc a b) (k:Dc b c):Dc a c:=⟨k.os.trans h.os,k.tape.trans h.tape,k.output.trans h.output⟩
theorem Kp.refl (c:Nat) (G:Kg):Kp c G G:=fun _ _=>⟨rfl,rfl⟩
theorem Kp.trans {c d:Nat} {A B D:Kg} (h:Kp c A B) (k:Kp d B D) (hcd:c≤d):Kp c A D:=fun i hi=>
 ⟨(k i (Nat.lt_of_lt_of_le hi hcd)).1.trans (h i hi).1,(k i (Nat.lt_of_lt_of_le hi hcd)).2.trans (h i hi).2⟩
theorem C9.refl (h:Kt Ke) (G:Kg) (w:World):C9 h G w h G w:=⟨Kg.le.refl G,Nat.le_refl _,fun _ _ _=>rfl,fun i e _ h1 h2=> .inr ⟨i,e,h1,h2⟩,jK w,rfl⟩
theorem C9.trans {h h1 h2:Kt Ke} {G G1 G2:Kg} {w w1 w2:World} (a:C9 h G w h1 G1 w1) (b:C9 h1 G1 w1 h2 G2 w2):C9 h G w h2 G2 w2 where
 le:=a.le.trans b.le
 size:=Nat.le_trans a.size b.size
 frm:=fun k hk hu=>by
  refine(b.frm k (Nat.lt_of_lt_of_le hk a.size) fun i e hi hb=>?_).trans (a.frm k hk hu)
  rcases a.own i e k hi hb with q | ⟨j,d,q1,q2⟩
  ·omega
  ·exact hu j d q1 q2
 own:=fun i e k hi hb=>by
  rcases b.own i e k hi hb with q | ⟨j,d,q1,q2⟩
  ·exact .inl (Nat.le_trans a.size q)
  ·exact a.own j d k q1 q2
 out:=SG a.out b.out
 df:=b.df.trans a.df
section
variable {F:KF} {c:Nat} {h:Kt Ke} {w:World} {G:Kg}
theorem HK.lt (hk:HK F c h w G) {i:Nat} {e:Ke} {b:Nat} (hi:h.get i=some e) (hb:G.blk i=some b):b<w.heap.size:=by
 obtain⟨b',T,cur,fz,_,h1,h2,_⟩:=hk.ent i e hi
 rw [hb]at h1;injection h1 with h1;subst h1
 exact(Array.getElem?_eq_some_iff.1 h2).1
theorem Up.mono {w w':World} {G G':Kg} {i:Nat} {e:Ke} (hg:G.le G') (hb: ∀ b,G.blk i=some b→w'.heap[b]? =w.heap[b]?) (h:Up w G i e):Up w' G' i e:=by
 obtain⟨b,T,cur,fz,h0,h1,h2,h3,h4,h5⟩:=h
 refine⟨b,T,cur,fz,h0,hg.blk _ _ h1,by rw [hb b h1];exact h2,h3,h4.mono hg,?_⟩
 cases hr:e.row with
 | none=>trivial
 | some q=>
   rw [hr]at h5
   obtain⟨k1,k0,k2⟩:=h5
   exact⟨k1,k0,fun q=>have ⟨cap,k2,k3⟩:=k2 q;⟨cap,hg.cap _ _ k2,k3⟩⟩
theorem HK.turn (hk:HK F c h w G) {h':Kt Ke} {c':Nat} {G':Kg} {w':World} {id tb ob:Nat} (ho:Dc w w') (hs:w.heap.size≤w'.heap.size)
 (hblk: ∀ b,b<w.heap.size→b ≠ tb→b ≠ ob→w'.heap[b]? =w.heap[b]?) (htb:w.heap.size≤tb∨ ∃ j d,h.get j=some d∧G.blk j=some tb) (hob:w.heap.size≤ob∨ ∃ j d,h.get j=some d∧G.blk j=some ob) (hle:G.le G')
 (hfr: ∀ i,c'≤i→G'.blk i=none∧G'.cap i=none)
 (hh: ∀ i e,h'.get i=some e→(i=id∧Up w' G' i e∧G'.blk i=some tb)∨(i ≠ id∧h.get i=some e∧ ∀ b,G.blk i=some b→b ≠ tb∧b ≠ ob)) (hdf:G'.df=G.df:=by rfl):
 HK F c' h' w' G'∧C9 h G w h' G' w':=by
 have old: ∀ i e,h.get i=some e→ ∀ b,G'.blk i=some b→G.blk i=some b:=fun i e hi b hb=>by
  obtain⟨b',_,_,_,_,h1,_⟩:=hk.ent i e hi
  have:=hle.blk _ _ h1
  rw [hb]at this;injection this with this;subst this;exact h1
 have hn: ∀ tb,(w.heap.size≤tb∨ ∃ j d,h.get j=some d∧G.blk j=some tb)→F.w0.heap.size≤tb:=fun tb htb=>by
  rcases htb with q | ⟨j,d,q1,q2⟩
  ·exact Nat.le_trans hk.hsize q
  ·exact hk.new j d tb q1 q2
 have hn1:=hn tb htb
 have hn2:=hn ob hob
 refine⟨⟨fun i e hi=>?_,fun i j e d b hi hj hbi hbj=>?_,fun i e b hi hb=>?_,hfr,hk.inv,SG hk.out ho,Nat.le_trans hk.hsize hs,fun b hb=>?_⟩,⟨hle,hs,fun b hb hu=>?_,fun i e b hi hb=>?_,ho,hdf⟩⟩
 ·rcases hh i e hi with ⟨_,q,_⟩ | ⟨_,q,q2⟩
  ·exact q
  ·exact Up.mono hle (fun b hb=>hblk b (hk.lt q hb) (q2 b hb).1 (q2 b hb).2) (hk.ent i e q)
 ·rcases hh i e hi with ⟨q1,_,q3⟩ | ⟨q1,q2,q3⟩<;>rcases hh j d hj with ⟨p1,_,p3⟩ | ⟨p1,p2,p3⟩
  ·omega
  ·rw [hbi]at q3;injection q3 with q3
   exact absurd q3 (p3 b (old j d p2 b hbj)).1
  ·rw [hbj]at p3;injection p3 with p3
   exact absurd p3 (q3 b (old i e q2 b hbi)).1
  ·exact hk.inj i j e d b q2 p2 (old i e q2 b hbi) (old j d p2 b hbj)
 ·rcases hh i e hi with ⟨_,_,q⟩ | ⟨_,q,_⟩
  ·rw [hb]at q;injection q with q;omega
  ·exact hk.new i e b q (old i e q b hb)
 ·rw [hblk b (Nat.lt_of_lt_of_le hb hk.hsize) (by omega) (by omega)];exact hk.ext b hb
 ·have un: ∀ tb,(w.heap.size≤tb∨ ∃ j d,h.get j=some d∧G.blk j=some tb)→b ≠ tb:=fun tb htb e=>by
   subst e
   rcases htb with q | ⟨j,d,q1,q2⟩
   ·omega
   ·exact hu j d q1 q2
  exact hblk b hb (un tb htb) (un ob hob)
 ·rcases hh i e hi with ⟨_,_,q⟩ | ⟨_,q,_⟩
  ·rw [hb]at q;injection q with q;subst q;exact htb
  ·exact .inr ⟨i,e,q,old i e q b hb⟩
def Kg.set (G:Kg) (id b:Nat) (cp:Option Nat):Kg:=⟨fun i=>match Nat.beq i id with | true=>some b | false=>G.blk i,fun i=>match Nat.beq i id with | true=>cp | false=>G.cap i,G.df⟩
theorem Kg.set_blk (G:Kg) (id b:Nat) (cp:Option Nat) (i:Nat):(G.set id b cp).blk i=if i=id then some b else G.blk i:=by
 simp only [Kg.set]
 by_cases q:i=id
 ·subst q;simp
 ·rw [if_neg q]
  have:Nat.beq i id=false:=by cases hq:Nat.beq i id<;>simp_all
  rw [this]
theorem Kg.set_cap (G:Kg) (id b:Nat) (cp:Option Nat) (i:Nat):(G.set id b cp).cap i=if i=id then cp else G.cap i:=by
 simp only [Kg.set]
 by_cases q:i=id
 ·subst q;simp
 ·rw [if_neg q]
  have:Nat.beq i id=false:=by cases hq:Nat.beq i id<;>simp_all
  rw [this]
theorem Kg.set_le {G:Kg} {id b:Nat} {cp:Option Nat} (h1:G.blk id=none) (h2:G.cap id=none):G.le (G.set id b cp):=
 ⟨fun i x hx=>by rw [Kg.set_blk,if_neg (fun e=>by simp_all)];exact hx,fun i x hx=>by rw [Kg.set_cap,if_neg (fun e=>by simp_all)];exact hx⟩
def WE:Option (Nat×Nat)→Nat→Option Nat
 | none,_=>none
 | some _,k=>some k
theorem HK.made (hk:HK F c h w G) (id:Nat) {c':Nat} (hid:id<c') (hc:c≤c') (hun:G.blk id=none∧G.cap id=none) (hh:h.get id=none) {cur:Array Value} {T:TypeId} {e:Ke} {k:Nat} (hl:e.cs.length≤cur.size) (hr:KL G e.cs (cur.toList.take e.cs.length))
 (hrow: ∀ E N,e.row=some (E,N)→T=E∧(N=0→cur.size=e.cs.length)∧(0<N→cur.size=k*N∧k≤maxLen)):
 HK F c' (h.put id (some e)) (w.alloc (.cells cur T)) (G.set id w.heap.size (WE e.row k))∧C9 h G w (h.put id (some e)) (G.set id w.heap.size (WE e.row k)) (w.alloc (.cells cur T)):=by
 have hsame:=Ek w (.cells cur T)
 have hle:G.le (G.set id w.heap.size (WE e.row k)):=Kg.set_le hun.1 hun.2
 refine hk.turn (id:=id) (tb:=w.heap.size) (ob:=w.heap.size) (EM _ _) hsame.size (fun b hb _ _=>hsame.block b hb) (.inl (Nat.le_refl _)) (.inl (Nat.le_refl _)) hle (fun i hi=>?_) fun i d hi=>?_
 ·rw [Kg.set_blk,Kg.set_cap,if_neg (by omega),if_neg (by omega)]
  exact hk.fr i (by omega)
 ·rw [Kt.get_put]at hi
  by_cases q:i=id
  ·rw [if_pos q]at hi;injection hi with hi;subst hi q
   refine .inl ⟨rfl,⟨w.heap.size,T,cur,(0,0),fun _=>rfl,by simp [Kg.set_blk],by simp [Ej],hl,hr.mono hle,?_⟩,by simp [Kg.set_blk]⟩
   cases hq:e.row with
   | none=>trivial
   | some EN=>
     obtain⟨h1,h0,h2⟩:=hrow EN.1 EN.2 (by rw [hq])
     exact⟨h1,h0,fun q=>⟨k,by simp [Kg.set_cap,WE,hq],h2 q⟩⟩
  ·rw [if_neg q]at hi
   exact .inr ⟨q,hi,fun b hb=>by have:=hk.lt hi hb;omega⟩
theorem HK.stored (hk:HK F c h w G) {id:Nat} {e:Ke} (he:h.get id=some e) (hro:e.ro=false) {off:Nat} {xs:List Kc} {vs:List Value} (hx:KL G xs vs) (hoff:off+xs.length≤e.cs.length):
 ∃ b T cur,G.blk id=some b∧w.heap[b]? =some (.cells cur T (0,0))∧off+vs.length≤cur.size∧
   HK F c (h.put id (some ⟨e.row,e.cs.take off++xs++e.cs.drop (off+xs.length),false⟩)) (w.setRow b (cur.toList.take off++vs++cur.toList.drop (off+vs.length)).toArray) G∧
   C9 h G w (h.put id (some ⟨e.row,e.cs.take off++xs++e.cs.drop (off+xs.length),false⟩)) G (w.setRow b (cur.toList.take off++vs++cur.toList.drop (off+vs.length)).toArray):=by
 obtain⟨b,T,cur,fz,h0,h1,h2,h3,h4,h5⟩:=hk.ent id e he
 have h0:=h0 hro
 subst h0
 have hlx:=hx.len
 have hlen:(cur.toList.take off++vs++cur.toList.drop (off+vs.length)).length =cur.size:=by simp;omega
 refine⟨b,T,cur,h1,h2,by omega,?_⟩
 refine hk.turn (id:=id) (tb:=b) (ob:=b) ⟨rfl,rfl,rfl⟩ (by simp) (fun k _ hne _=>setRow_other w b k _ hne) (.inr ⟨id,e,he,h1⟩) (.inr ⟨id,e,he,h1⟩) (Kg.le.refl G) hk.fr fun i d hi=>?_
 rw [Kt.get_put]at hi
 by_cases q:i=id
 ·rw [if_pos q]at hi;injection hi with hi;subst hi q
  refine .inl ⟨rfl,⟨b,T,_,(0,0),fun _=>rfl,h1,setRow_heap w b cur _ T (0,0) h2,by simp;omega,?_,?_⟩,h1⟩
  ·have e1:(e.cs.take off++xs++e.cs.drop (off+xs.length)).length =e.cs.length:=by simp;omega
   simp only [e1]
   have e2:(cur.toList.take off++vs++cur.toList.drop (off+vs.length)).take e.cs.length=(cur.toList.take e.cs.length).take off++vs++(cur.toList.take e.cs.length).drop (off+vs.length):=by
    have hc:cur.toList.length=cur.size:=by simp
    rw [List.take_append,List.take_append,List.drop_take,List.take_take,List.take_take]
    have a1:min e.cs.length off=off:=by omega
    have a2:(List.take off cur.toList).length =off:=by simp;omega
    rw [List.take_of_length_le (l:=vs) (by simp;omega)]
    simp only [List.length_append,a2]
    rw [show min off e.cs.length=off from by omega,a1,show e.cs.length - (off+vs.length)=e.cs.length - (off+vs.length)from rfl]
   rw [e2,hlx]
   exact((h4.take off).append hx).append (h4.drop _)
  ·cases hq:e.row with
   | none=>trivial
   | some EN=>
     rw [hq]at h5
     obtain⟨k1,k0,k2⟩:=h5
     exact⟨k1,fun q=>by have:=k0 q;simp at hlen hlx ⊢;omega,fun q=>have ⟨cap,k2,k3,k4⟩:=k2 q;⟨cap,k2,by rw [←k3];simpa using hlen,k4⟩⟩
 ·rw [if_neg q]at hi
  have un: ∀ k,G.blk i=some k→k ≠ b:=fun k hk' e2=>q (hk.inj i id d e k hi he hk' (by rw [e2];exact h1))
  exact .inr ⟨q,hi,fun k hk'=>⟨un k hk',un k hk'⟩⟩
end
end
end Go.PL
namespace Go.PL
open Go Go.RowKit
noncomputable section
def gx (G:Kg):Au:=⟨fun l=>match l with | [i]=>G.blk i | _=>none,fun _=>none,fun _=>False⟩
def Kc.c:Kc→Option C
 | .i k n=>some (.int k n)
 | .b x=>some (.bool x)
 | .s x=>some (.str x)
 | _=>none
def Kc.cs:List Kc→Option (List C)
 | []=>some []
 | c::cs=>match c.c,Kc.cs cs with
   | some x,some xs=>some (x::xs)
   | _,_=>none
def kI:C→Option Kv
 | .int k n=>some (.c (.i k n))
 | .bool b=>some (.c (.b b))
 | .str s=>some (.c (.s s))
 | _=>none
section
variable {G:Kg} {w:World}
theorem Kc.c_ok {c:Kc} {x:C} {v:Value} (h:c.c=some x) (hv:KC G c v):Ac w (gx G) x v:=by
 cases c<;>simp only [Kc.c]at h<;>first
  | (injection h with h;subst h;simpa only [KC,Ac] using hv)
  | cases h
theorem Kc.cs_ok: ∀ {cs:List Kc} {xs:List C} {vs:List Value},Kc.cs cs=some xs→KL G cs vs→Ag w (gx G) xs vs
 | [],_,_,h,hv=>by
   simp only [Kc.cs]at h;injection h with h;subst h;simp only [KL]at hv;subst hv;simp [Ag]
 | c::cs,_,_,h,⟨v,r,h1,h2,h3⟩=>by
   simp only [Kc.cs]at h
   split at h
   ·rename_i x xs e1 e2
    injection h with h;subst h h1
    exact⟨Kc.c_ok e1 h2,Kc.cs_ok e2 h3⟩
   ·cases h
theorem jL {x:C} {y:Kv} {v:Value} (h:kI x=some y) (hv:Ac w (gx G) x v):KV G y v:=by
 cases x<;>simp only [kI]at h<;>first
  | (injection h with h;subst h;simpa only [KV,KC,Ac] using hv)
  | cases h
end
def pC (op:BinOp) (b:Int):Bool:=match op with
 | .quo => !(b==0)
 | .rem => !(b==0)
 | .shl =>decide (0≤b)
 | .shr =>decide (0≤b)
 | _=>true
def pE (op:BinOp) (a b:List UInt8):Bool:=match op with
 | .add =>Nat.ble (a.length+b.length) maxLen
 | .eql =>true
 | .neq =>true
 | .lss =>true
 | .leq =>true
 | .gtr =>true
 | .geq =>true
 | _=>false
def Qe (op:BinOp) (b:Bool):Option Kv:=match op with
 | .eql =>some (.c (.b b))
 | .neq =>some (.c (.b !b))
 | _=>none
def lT (P:Program) (op:BinOp) (t:TypeId):Kv→Kv→Option Kv
 | .c (.i k a), .c (.i k' b)=>match mT op k k'&&pC op b with
   | true=>kI (EJ op k a b).2
   | false=>none
 | .c (.b a), .c (.b b)=>match LE P t with
   | true=>Qe op (a==b)
   | false=>none
 | .c (.s a), .c (.s b)=>match pE op a b with
   | true=>kI (Fe op a b).2
   | false=>none
 | .c (.p _ _), .c (.z (.pointer none))=>match FF P t with
   | true=>Qe op false
   | false=>none
 | .c (.z (.pointer none)), .c (.z (.pointer none))=>match FF P t with
   | true=>Qe op true
   | false=>none
 | .c (.l ..), .c (.z (.slice none 0 0))=>match BV P t with
   | true=>Qe op false
   | false=>none
 | .c (.z (.slice none 0 0)), .c (.z (.slice none 0 0))=>match BV P t with
   | true=>Qe op true
   | false=>none
 | .a cs, .a ds=>match Kc.cs cs,Kc.cs ds with
   | some xs,some ys=>match Vi P t xs ys with
     | true=>Qe op (Co xs ys)
     | false=>none
   | _,_=>none
 | _,_=>none
theorem Ga {P:Program} {G:Kg} {op:BinOp} {t:TypeId} {u v:Value} {b:Bool} {y:Kv} {ox oy:Operand} (h:Qe op b=some y) (hshape:(∀ k a,u ≠ .int k a)∧(∀ k a,u ≠ .float k a)∧(∀ k a c,u ≠ .complex k a c)∧(∀ a,u ≠ .string a))
 (hg: ∀ w',(eqGuard op t ox oy u v).run P w'= .ok () w') (he: ∀ w',(Op.equal t u v).run P w'= .ok b w'):
 ∃ r,KV G y r∧ ∀ w',(do eqGuard op t ox oy u v;binOp op t u v).run P w'= .ok r w':=by
 have key: ∀ w0:World,(GV op b True).1∧ ∃ b',(GV op b True).2= .c (.bool b')∧y= .c (.b b'):=fun w0=>by
  cases op<;>simp only [Qe]at h<;>first
   | (injection h with h;exact⟨trivial,_,rfl,h.symm⟩)
   | cases h
 obtain⟨k1,b',k2,rfl⟩:=key default
 obtain⟨r,q1,q2⟩:=DA (P:=P) (op:=op) (t:=t) (u:=u) (v:=v) (b:=b) (s:=True) (w:=default) (G:=gx G) (ox:=ox) (oy:=oy) k1 hshape (fun _=>hg) (fun _=>he)
 rw [k2]at q1
 exact⟨r,by simpa only [KV,KC,Ab,Ac] using q1,q2⟩
theorem eQ {op:BinOp} {k:IntKind} {a b:Int} (h:pC op b=true):(EJ op k a b).1:=by
 cases op<;>simp_all [pC,EJ]
theorem eR {op:BinOp} {a b:List UInt8} (h:pE op a b=true):(Fe op a b).1:=by
 cases op<;>simp_all [pE,Fe]
theorem iN {P:Program} {G:Kg} {op:BinOp} {t:TypeId} {x y r:Kv} {u v:Value} {ox oy:Operand} (hx:KV G x u) (hy:KV G y v) (h:lT P op t x y=some r):
 ∃ z,KV G r z∧ ∀ w',(do eqGuard op t ox oy u v;binOp op t u v).run P w'= .ok z w':=by
 unfold lT at h
 split at h
 ·rename_i k a k' b
  split at h
  ·rename_i hb
   simp only [Bool.and_eq_true]at hb
   simp only [KV,KC]at hx hy;subst hx hy
   have q:=fun w'=>LF (P:=P) (op:=op) (t:=t) (ox:=ox) (oy:=oy) (x:=a) (OJ hb.1) (eQ hb.2) w'
   exact⟨_,jL (w:=default) h ((Ay (q default).2).2 rfl),fun w'=>(q w').1⟩
  ·cases h
 ·split at h
  ·rename_i hb
   simp only [KV,KC]at hx hy;subst hx hy
   unfold Qe at h
   split at h
   ·injection h with h;subst h
    exact⟨_,rfl,(by grind [eqGuard,run_eql_bool,Gp,EK])⟩
   ·injection h with h;subst h
    exact⟨.bool (_ != _),rfl,(by grind [eqGuard,run_neq_bool,Gp,EK])⟩
   ·cases h
  ·cases h
 ·split at h
  ·rename_i hb
   simp only [KV,KC]at hx hy;subst hx hy
   have q:=fun w'=>LG (P:=P) (op:=op) (t:=t) (ox:=ox) (oy:=oy) (eR hb) w'
   exact⟨_,jL (w:=default) h ((Ay (q default).2).2 rfl),fun w'=>(q w').1⟩
  ·cases h
 ·split at h
  ·rename_i hb
   simp only [KV,KC]at hx hy
   obtain⟨b,_,rfl⟩:=hx
   obtain⟨rfl,_⟩:=hy
   obtain⟨e,he⟩:=FG hb
   exact Ga h (by simp) (fun w'=>by simp [eqGuard]) (fun w'=>Hx he w')
  ·cases h
 ·split at h
  ·rename_i hb
   simp only [KV,KC]at hx hy
   obtain⟨rfl,_⟩:=hx
   obtain⟨rfl,_⟩:=hy
   obtain⟨e,he⟩:=FG hb
   exact Ga h (by simp) (fun w'=>by simp [eqGuard]) (fun w'=>J6 he w')
  ·cases h
 ·split at h
  ·rename_i hb
   simp only [KV,KC]at hx hy
   obtain⟨b,cap,o,_,_,_,_,_,rfl⟩:=hx
   obtain⟨rfl,_⟩:=hy
   obtain⟨e,he⟩:=Bi hb
   refine Ga h (by simp) (fun w'=>by simp [eqGuard]) (fun w'=>?_)
   simpa using run_equal_slice_nil (P:=P) w' t e (some ⟨b,o,none⟩) _ _ he
  ·cases h
 ·split at h
  ·rename_i hb
   simp only [KV,KC]at hx hy
   obtain⟨rfl,_⟩:=hx
   obtain⟨rfl,_⟩:=hy
   obtain⟨e,he⟩:=Bi hb
   refine Ga h (by simp) (fun w'=>by simp [eqGuard]) (fun w'=>?_)
   simpa using run_equal_slice_nil (P:=P) w' t e none _ _ he
  ·cases h
 ·split at h
  ·rename_i xs ys e1 e2
   split at h
   ·rename_i hb
    obtain⟨ax,rfl,hx⟩:=hx
    obtain⟨ay,rfl,hy⟩:=hy
    have rx:Ab default (gx G) (.agg xs) (.agg ax):=⟨ax,rfl,Kc.cs_ok e1 hx⟩
    have ry:Ab default (gx G) (.agg ys) (.agg ay):=⟨ay,rfl,Kc.cs_ok e2 hy⟩
    unfold Qe at h
    split at h
    ·injection h with h;subst h
     obtain⟨z,q1,q2⟩:=Jt (P:=P) (op:= .eql) (t:=t) (ox:=ox) (oy:=oy) rx ry hb
     exact⟨z,by simpa only [KV,KC,Ab,Ac,QJ] using q1,q2⟩
    ·injection h with h;subst h
     obtain⟨z,q1,q2⟩:=Jt (P:=P) (op:= .neq) (t:=t) (ox:=ox) (oy:=oy) rx ry hb
     exact⟨z,by simpa only [KV,KC,Ab,Ac,QJ] using q1,q2⟩
    ·cases h
   ·cases h
  ·cases h
 ·cases h
end
end Go.PL
namespace Go.PL
open Go Go.RowKit
noncomputable section
def Ln (ag:Bool) (off n:Nat) (cs:List Kc):Option Kv:=match ag with
 | true=>match oB n (iI off cs)with
   | some l=>some (.a l)
   | none=>none
 | false=>match iI off cs with
   | c::_=>match n with
     | 0=>none
     | _+1=>some (.c c)
   | []=>none
section
variable {P:Program} {G:Kg}
theorem Nw {ag:Bool} {off n:Nat} {cs:List Kc} {r:Kv} (h:Ln ag off n cs=some r):(ag=true∧(off+n≤cs.length∨n=0)∧r= .a ((cs.drop off).take n))∨(ag=false∧0<n∧ ∃ c,cs[off]? =some c∧r= .c c):=by
 unfold Ln at h
 split at h
 ·split at h
  ·rename_i l hl
   injection h with h
   obtain⟨k1,k2⟩:=Yg hl
   rw [N6]at k1 k2
   simp at k2
   exact .inl ⟨rfl,by omega,by rw [←h,k1]⟩
  ·cases h
 ·split at h
  ·rename_i c r' hd
   split at h
   ·cases h
   ·injection h with h
    rw [N6]at hd
    refine .inr ⟨rfl,by omega,c,?_,h.symm⟩
    have:=congrArg (fun l=>l[0]?) hd
    simpa using this
  ·cases h
theorem run_isAgg' {t:TypeId} {ag:Bool} {n:Nat} (ht:Fd P t=some (ag,n)) (w:World):(isAgg t).run P w= .ok ag w:=by
 obtain⟨d,i,hu,hd,hi,hsz⟩:=Br ht
 unfold isAgg
 rw [Sem.run_bind,run_underlying hu w]
 cases d<;>simp_all
theorem WF {t:TypeId} {ag:Bool} {n off:Nat} {cs:List Kc} {arr:Array Value} {r:Kv} (ht:Fd P t=some (ag,n)) (h:KL G cs arr.toList) (hp:Ln ag off n cs=some r):
 ∃ v,KV G r v∧ ∀ w',(part t arr off).run P w'= .ok v w':=by
 obtain⟨d,i,hu,hd,hi,hsz⟩:=Br ht
 have hagg:=run_isAgg' ht
 rcases Nw hp with ⟨rfl,_,rfl⟩ | ⟨rfl,h1,c,h2,rfl⟩
 ·refine⟨.agg (arr.extract off (off+n)),⟨_,rfl,?_⟩,fun w'=>?_⟩
  ·have:=(h.drop off).take n
   simpa using this
  ·simp_all [part,sizeOf,typeInfo]
 ·obtain⟨v,hv,hr⟩:=h.get h2
  refine⟨v,hr,fun w'=>?_⟩
  simp_all [part]
def Lo (place:Nat→Option (Nat×Nat)) (cells:List Kc):List (Nat×Kv)→Option (List Kc)
 | []=>some cells
 | (i,v)::rest=>match place i,v.cells with
   | some (off,size),some cs=>match Nat.beq cs.length size with
     | true=>match bA off cs cells with
       | some r=>Lo place r rest
       | none=>none
     | false=>none
   | _,_=>none
def KP (G:Kg):List (Nat×Kv)→List (Nat×Value)→Prop
 | [],vs=>vs=[]
 | (i,x)::xs,vs=> ∃ v r,vs=(i,v)::r∧KV G x v∧KP G xs r
theorem Qf {place:Nat→Option (Nat×Nat)}: ∀ {ps:List (Nat×Kv)} {qs:List (Nat×Value)} {cells out:List Kc} {arr:Array Value},
 Lo place cells ps=some out→KP G ps qs→KL G cells arr.toList→ ∃ arr',Instr.fill place arr qs=some arr'∧KL G out arr'.toList
 | [],_,cells,out,arr,h,hp,hr=>by
   simp only [Lo,Option.some.injEq]at h;subst h
   simp only [KP]at hp;subst hp
   exact⟨arr,rfl,hr⟩
 | (i,x)::ps,_,cells,out,arr,h,⟨v,qs,e,hv,hp⟩,hr=>by
   subst e
   simp only [Lo]at h
   split at h
   ·rename_i off size cs hpl hcs
    split at h
    ·rename_i hb
     have hb1:=Nat.eq_of_beq_eq_true hb
     split at h
     rotate_left
     ·cases h
     rename_i r hr0
     obtain⟨e0,hb2⟩:=I4 hr0
     rw [hb1]at e0 hb2
     subst e0
     have hvc:=hv.cells hcs
     have hl:=hr.len
     have hlv:=hvc.len
     have e:=LM v.cells.toList off 0 arr (by simp at hl hlv ⊢;omega)
     simp only [Instr.fill,hpl]
     rw [if_neg (by simp at hl hlv ⊢;omega)]
     refine Qf h hp ?_
     rw [←Array.foldl_toList,Array.toList_zipIdx,e]
     simp only [Nat.add_zero]
     have:v.cells.toList.length=size:=by omega
     rw [this]
     exact((hr.take off).append hvc).append (hr.drop (off+size))
    ·cases h
   ·cases h
def Qg (P:Program) (t:TypeId):Option (List Kc):=match P.info? t with
 | some i=>match i.zero with
   | some z=>match z.cells.toList.all eO with
     | true=>some (z.cells.toList.map mH)
     | false=>none
   | none=>none
 | none=>none
theorem IG {t:TypeId} {cs:List Kc} (h:Qg P t=some cs): ∃ i z,P.info? t=some i∧i.zero=some z∧KL G cs z.cells.toList:=by
 unfold Qg at h
 split at h
 ·rename_i i hi
  split at h
  ·rename_i z hz
   split at h
   ·rename_i hk
    injection h with h;subst h
    exact⟨i,z,hi,hz,Uo hk⟩
   ·cases h
  ·cases h
 ·cases h
def eT (tm:Kt Kv) (ps:List (Nat×Operand)):List (Nat×Kv):=ps.map fun p=>(p.1,E5 tm p.2)
theorem Qh {n:Nat} {tm:Kt Kv} {a:Act} (h:SK n tm a G): ∀ ps:List (Nat×Operand),KP G (eT tm ps) (ps.map fun p=>(p.1,a.eval p.2))
 | []=>rfl
 | p::ps=>⟨_,_,rfl,h.ev p.2,Qh h ps⟩
def Yh (P:Program) (tm:Kt Kv) (t:TypeId) (ps:List (Nat×Operand)):Option Kv:=match Qg P t,Rx P t with
 | some z,true=>match Lo (cf P t) z (eT tm ps)with
   | some cs=>some (.a cs)
   | none=>none
 | _,_=>none
theorem bB {n:Nat} {tm:Kt Kv} {a:Act} (h:SK n tm a G) {t:TypeId} {ps:Array (Nat×Operand)} {r:Kv} (hs:Yh P tm t ps.toList=some r):
 ∃ v,KV G r v∧ ∀ w',(Instr.build t (ps.map fun(i,x)=>(i,a.eval x))).run P w'= .ok v w':=by
 unfold Yh at hs
 split at hs
 ·rename_i z hz hok
  split at hs
  ·rename_i cs hf
   injection hs with hs;subst hs
   obtain⟨i,zv,hi,hzv,hc⟩:=IG (G:=G) hz
   obtain⟨arr',q1,q2⟩:=Qf hf (Qh h ps.toList) hc
   refine⟨.agg arr',⟨arr',rfl,q2⟩,fun w'=>run_build w' t _ arr' ?_⟩
   unfold Rx at hok
   unfold Program.built
   rw [hi]
   split at hok
   ·rename_i m e hu
    cases hie:P.info? e with
    | none=>grind
    | some ie=>
      simp only [hu,hzv,hie]
      have e1:cf P t=fun i=>some (i*ie.size,ie.size):=by
       grind [cf]
      simp_all
   ·rename_i fs hu
    cases hm:fs.toList.mapM (fun f=>(P.info? f.type).map fun i=>(f.offset,i.size))with
    | none=>grind
    | some pl=>
      simp only [hu,hzv,hm]
      have e1:cf P t=fun i=>pl[i]? :=by
       grind [cf]
      simp_all
   ·cases hok
  ·cases hs
 ·cases hs
def Yi (dl dh:Nat) (lo hi:Option Kv):Option (Int×Int):=match lo,hi with
 | none,none=>some (0,dh)
 | some (.c (.i _ l)),none=>some (l,dh)
 | none,some (.c (.i _ h))=>some (0,h)
 | some (.c (.i _ l)),some (.c (.i _ h))=>some (l,h)
 | _,_=>none
def KO (G:Kg):Option Kv→Option Value→Prop
 | none,none=>True
 | some x,some v=>KV G x v
 | _,_=>False
theorem eU {len cap room:Nat} {lo hi:Option Kv} {lv hv:Option Value} {l h:Int} (sl:Bool) (hb:Yi 0 len lo hi=some (l,h)) (h1:KO G lo lv) (h2:KO G hi hv)
 (q1:0≤l) (q2:l≤h) (q3:h≤room) (q4:room≤cap): ∀ w',(Instr.sliceBounds sl len cap lv hv none).run P w'= .ok (l.toNat,h.toNat,cap) w':=by
 intro w'
 unfold Yi at hb
 split at hb
 ·simp only [Option.some.injEq,Prod.mk.injEq]at hb;obtain⟨rfl,rfl⟩:=hb
  cases lv<;>cases hv<;>simp only [KO]at h1 h2
  simp [Instr.sliceBounds]
 ·rename_i k1 l1
  simp only [Option.some.injEq,Prod.mk.injEq]at hb;obtain⟨rfl,rfl⟩:=hb
  cases lv<;>cases hv<;>simp only [KO,KV,KC]at h1 h2
  simp_all [run_sliceBound',Instr.sliceBounds]
 ·rename_i k2 l2
  simp only [Option.some.injEq,Prod.mk.injEq]at hb;obtain⟨rfl,rfl⟩:=hb
  cases lv<;>cases hv<;>simp only [KO,KV,KC]at h1 h2
  subst h2
  have e2:=fun code=>run_sliceBound' (P:=P) w' k2 l2 cap code (by omega) (by omega)
  simp [Instr.sliceBounds,e2]
 ·rename_i k1 l1 k2 l2
  simp only [Option.some.injEq,Prod.mk.injEq]at hb;obtain⟨rfl,rfl⟩:=hb
  cases lv<;>cases hv<;>simp only [KO,KV,KC]at h1 h2
  subst h1 h2
  have e1:=fun code=>run_sliceBound' (P:=P) w' k1 l1 l2.toNat code q1 (by omega)
  have e2:=fun code=>run_sliceBound' (P:=P) w' k2 l2 cap code (by omega) (by omega)
  simp_all [Instr.sliceBounds]
 ·cases hb
end
end
end Go.PL
namespace Go.PL
open Go Go.RowKit
noncomputable section
section
variable {P:Program} {G:Kg}
theorem eV {len cap room:Nat} {lo hi mx:Option Kv} {lv hv mv:Option Value} {l h m:Int} {k:IntKind} (sl:Bool) (hb:Yi 0 len lo hi=some (l,h)) (hm:mx=some (.c (.i k m))) (h1:KO G lo lv) (h2:KO G hi hv) (h3:KO G mx mv) (hsome:hi.isSome=true)
 (q1:0≤l) (q2:l≤h) (q3:h≤m) (q4:m≤room) (q5:room≤cap): ∀ w',(Instr.sliceBounds sl len cap lv hv mv).run P w'= .ok (l.toNat,h.toNat,m.toNat) w':=by
 intro w'
 subst hm
 cases mv<;>simp only [KO,KV,KC]at h3
 subst h3
 have e3:=fun code=>run_sliceBound' (P:=P) w' k m cap code (by omega) (by omega)
 unfold Yi at hb
 split at hb
 ·cases hsome
 ·cases hsome
 ·rename_i k2 l2
  simp only [Option.some.injEq,Prod.mk.injEq]at hb;obtain⟨rfl,rfl⟩:=hb
  cases lv<;>cases hv<;>simp only [KO,KV,KC]at h1 h2
  subst h2
  have e2:=fun code=>run_sliceBound' (P:=P) w' k2 l2 m.toNat code (by omega) (by omega)
  simp [Instr.sliceBounds,e2,e3]
 ·rename_i k1 l1 k2 l2
  simp only [Option.some.injEq,Prod.mk.injEq]at hb;obtain⟨rfl,rfl⟩:=hb
  cases lv<;>cases hv<;>simp only [KO,KV,KC]at h1 h2
  subst h1 h2
  have e1:=fun code=>run_sliceBound' (P:=P) w' k1 l1 l2.toNat code q1 (by omega)
  have e2:=fun code=>run_sliceBound' (P:=P) w' k2 l2 m.toNat code (by omega) (by omega)
  simp_all [Instr.sliceBounds]
 ·cases hb
def Yj (P:Program) (t:TypeId) (x:Kv) (lo hi mx:Option Kv):Option Kv:=match x with
 | .c (.s s)=>match mx,Yi 0 s.length lo hi,Cj P t with
   | none,some (l,h),true=>match decide (0≤l)&&(decide (l≤h)&&decide (h≤s.length))with
     | true=>some (.c (.s ((s.drop l.toNat).take (h.toNat - l.toNat))))
     | false=>none
   | _,_,_=>none
 | .c (.l id N off len rm)=>match BZ P t,Yi 0 len lo hi with
   | some (_,n),some (l,h)=>match mx with
     | none=>match Nat.beq n N&&(decide (0≤l)&&(decide (l≤h)&&decide (h≤rm)))with
       | true=>some (.c (.l id N (off+l.toNat) (h.toNat - l.toNat) (rm - l.toNat)))
       | false=>none
     | some (.c (.i _ m))=>match hi.isSome&&(decide (0≤l)&&(decide (l≤h)&&(decide (h≤m)&&decide (m≤rm))))with
       | true=>match Nat.beq l.toNat m.toNat with
         | true=>some (.c .e)
         | false=>some (.c .u)
       | false=>none
     | _=>none
   | _,_=>none
 | .c (.z (.slice none 0 0))=>match BZ P t,Yi 0 0 lo hi,mx with
   | some _,some (l,h),none=>match decide (l=0)&&decide (h=0)with
     | true=>some (.c (.z (.slice none 0 0)))
     | false=>none
   | some _,some (l,h),some (.c (.i _ m))=>match hi.isSome&&(decide (l=0)&&(decide (h=0)&&decide (m=0)))with
     | true=>some (.c (.z (.slice none 0 0)))
     | false=>none
   | _,_,_=>none
 | _=>none
theorem bD {t:TypeId} {x r:Kv} {lo hi mx:Option Kv} {u:Value} {lv hv mv:Option Value} (hx:KV G x u) (h1:KO G lo lv) (h2:KO G hi hv) (h3:KO G mx mv) (hs:Yj P t x lo hi mx=some r):
 ∃ z,KV G r z∧ ∀ w',(Instr.sliceAt t u lv hv mv).run P w'= .ok z w':=by
 unfold Yj at hs
 split at hs
 ·rename_i s
  split at hs
  ·rename_i l h hb ht
   split at hs
   ·rename_i hq
    injection hs with hs;subst hs
    simp only [Bool.and_eq_true,decide_eq_true_eq]at hq
    obtain⟨q1,q2,q3⟩:=hq
    cases mv<;>simp only [KO]at h3
    simp only [KV,KC]at hx;subst hx
    refine⟨_,rfl,fun w'=>?_⟩
    have e:(⟨s.toArray⟩:ByteArray).extract l.toNat h.toNat=⟨((s.drop l.toNat).take (h.toNat - l.toNat)).toArray⟩:=by
     apply ByteArray.ext
     simp_all
    have:=eU (P:=P) (G:=G) false (len:=s.length) (cap:=s.length) hb h1 h2 q1 q2 q3 (Nat.le_refl _) w'
    simp_all [Instr.sliceAt,Instr.slice,run_underlying,BM,Ob]
   ·cases hs
  ·cases hs
 ·rename_i id N off len rm
  split at hs
  ·rename_i e n l h hse hb
   obtain⟨hu,inf,hi',hsz⟩:=BL hse
   simp only [KV,KC]at hx
   obtain⟨b,cap,o,g1,g2,g3,g4,g5,rfl⟩:=hx
   split at hs
   ·split at hs
    ·rename_i hq
     injection hs with hs;subst hs
     simp only [Bool.and_eq_true,decide_eq_true_eq]at hq
     obtain⟨q0,q1,q2,q3⟩:=hq
     have q0:=Nat.eq_of_beq_eq_true q0
     subst q0
     cases mv<;>simp only [KO]at h3
     have hr:=fun w'=>eU (P:=P) (G:=G) true (len:=len) (cap:=cap - off) hb h1 h2 q1 q2 q3 (by omega) w'
     refine⟨.slice (if cap - off=l.toNat then some ⟨b,o,none⟩else(some ⟨b,o,none⟩:Option Addr).map (·.add (l.toNat*n))) (h.toNat - l.toNat) (cap - off - l.toNat),?_,fun w'=>?_⟩
     ·simp only [KV,KC]
      refine⟨b,cap,if cap - off=l.toNat then o else o+l.toNat*n,g1,g2,by omega,by omega,fun hh=>?_,?_⟩
      ·by_cases hc:cap - off=l.toNat
       ·rw [if_pos hc]
        rcases hh with hh | hh
        ·omega
        ·rw [g5 (by omega)]
         have:l.toNat=0:=by omega
         rw [this];simp
       ·rw [if_neg hc,g5 (by omega),Nat.add_mul]
      ·rw [Nat.sub_add_eq]
       split<;>simp [Addr.add_mid]
     ·simp_all [Instr.sliceAt,Instr.slice,run_underlying,sizeOf,typeInfo]
    ·cases hs
   ·rename_i k m
    split at hs
    ·rename_i hq
     simp only [Bool.and_eq_true,decide_eq_true_eq]at hq
     obtain⟨q0,q1,q2,q3,q4⟩:=hq
     have hr:=fun w'=>eV (P:=P) (G:=G) true (len:=len) (cap:=cap - off) hb rfl h1 h2 h3 q0 q1 q2 q3 q4 (by omega) w'
     have hrun: ∀ w',(Instr.sliceAt t (.slice (some ⟨b,o,none⟩) len (cap - off)) lv hv mv).run P w'= .ok (.slice (if m.toNat=l.toNat then some ⟨b,o,none⟩else(some ⟨b,o,none⟩:Option Addr).map (·.add (l.toNat*n))) (h.toNat - l.toNat) (m.toNat - l.toNat)) w':=fun w'=>by
      simp_all [Instr.sliceAt,Instr.slice,run_underlying,sizeOf,typeInfo]
     split at hs
     ·rename_i hlm
      injection hs with hs;subst hs
      have hlm:=Nat.eq_of_beq_eq_true hlm
      refine⟨_,?_,hrun⟩
      simp only [KV,KC]
      rw [show h.toNat - l.toNat=0 by omega,show m.toNat - l.toNat=0 by omega]
      exact⟨_,rfl⟩
     ·injection hs with hs;subst hs
      exact⟨_,by simp [KV,KC,Value.oneCell'],hrun⟩
    ·cases hs
   ·cases hs
  ·cases hs
 ·simp only [KV,KC]at hx
  obtain⟨rfl,_⟩:=hx
  split at hs
  ·rename_i e l h hse hb
   obtain⟨hu,inf,hi',hsz⟩:=BL (e:=e.1) (n:=e.2) hse
   split at hs
   ·rename_i hq
    injection hs with hs;subst hs
    simp only [Bool.and_eq_true,decide_eq_true_eq]at hq
    obtain⟨rfl,rfl⟩:=hq
    cases mv<;>simp only [KO]at h3
    have hr:=fun w'=>eU (P:=P) (G:=G) true (len:=0) (cap:=0) hb h1 h2 (by omega) (by omega) (room:=0) (by omega) (by omega) w'
    exact⟨.slice none 0 0,⟨rfl,rfl⟩,fun w'=>by simp_all [Instr.sliceAt,Instr.slice,run_underlying,sizeOf,typeInfo]⟩
   ·cases hs
  ·rename_i e l h k m hse hb
   obtain⟨hu,inf,hi',hsz⟩:=BL (e:=e.1) (n:=e.2) hse
   split at hs
   ·rename_i hq
    injection hs with hs;subst hs
    simp only [Bool.and_eq_true,decide_eq_true_eq]at hq
    obtain⟨q0,rfl,rfl,rfl⟩:=hq
    have hr:=fun w'=>eV (P:=P) (G:=G) true (len:=0) (cap:=0) hb rfl h1 h2 h3 q0 (by omega) (by omega) (by omega) (room:=0) (by omega) (by omega) w'
    exact⟨.slice none 0 0,⟨rfl,rfl⟩,fun w'=>by simp_all [Instr.sliceAt,Instr.slice,run_underlying,sizeOf,typeInfo]⟩
   ·cases hs
  ·cases hs
 ·cases hs
end
end
end Go.PL
namespace Go.PL
open Go Go.RowKit
noncomputable section
section
variable {P:Program} {G:Kg}
def pG (op:UnOp):Kv→Option Kv
 | .c (.i k n)=>match op with
   | .neg =>some (.c (.i k (k.wrap (0 - n))))
   | .xor =>some (.c (.i k (SV k (if k.signed then -1 else k.max) n)))
   | _=>none
 | .c (.b x)=>match op with
   | .not =>some (.c (.b !x))
   | _=>none
 | _=>none
theorem lU {op:UnOp} {x r:Kv} {u:Value} (hx:KV G x u) (h:pG op x=some r): ∃ v,KV G r v∧ ∀ w',(Op.unary op u).run P w'= .ok v w':=by
 unfold pG at h
 split at h
 ·simp only [KV,KC]at hx;subst hx
  split at h
  ·injection h with h;subst h
   exact⟨_,rfl,(by simp_all [Op.unary,Op.intArith])⟩
  ·injection h with h;subst h
   exact⟨_,rfl,(by simp_all [Op.unary,Op.intBits,SV])⟩
  ·cases h
 ·simp only [KV,KC]at hx;subst hx
  split at h
  ·injection h with h;subst h
   exact⟨_,rfl,(by simp [Op.unary])⟩
  ·cases h
 ·cases h
def eW (P:Program) (src dst:TypeId):Kv→Option Kv
 | .c (.i _ n)=>match Ru P dst,ZT P src with
   | some k,true=>some (.c (.i k (k.wrap n)))
   | _,_=>none
 | .c (.s s)=>match Cj P src&&Cj P dst with
   | true=>some (.c (.s s))
   | false=>none
 | _=>none
theorem eX {src dst:TypeId} {x r:Kv} {u:Value} (hx:KV G x u) (h:eW P src dst x=some r): ∃ v,KV G r v∧ ∀ w',(convert src dst u).run P w'= .ok v w':=by
 unfold eW at h
 split at h
 ·simp only [KV,KC]at hx;subst hx
  split at h
  ·rename_i k hk hs
   injection h with h;subst h
   unfold ZT at hs
   cases hu:P.underlying src with
   | none=>grind
   | some d=>exact⟨_,rfl,(by simp_all [convert,run_underlying,Od,Conv.intToInt])⟩
  ·cases h
 ·simp only [KV,KC]at hx;subst hx
  split at h
  ·rename_i hq
   injection h with h;subst h
   simp only [Bool.and_eq_true]at hq
   exact⟨_,rfl,(by simp_all [convert,run_underlying,BM])⟩
  ·cases h
 ·cases h
def eY (P:Program) (s:TypeId) (f:Nat):Kv→Option Kv
 | .c (.p id off)=>match ZR P s f with
   | some (o,_,n)=>match Nat.blt 0 n with
     | true=>some (.c (.p id (off+o)))
     | false=>none
   | none=>none
 | _=>none
def lV (P:Program) (t:TypeId) (f:Nat):Kv→Option Kv
 | .a cs=>match ZR P t f with
   | some (o,ag,n)=>Ln ag o n cs
   | none=>none
 | _=>none
def eZ (P:Program) (t:TypeId) (x y:Kv):Option Kv:=match y with
 | .c (.i _ i)=>match x with
   | .c (.l id N off len _)=>match BZ P t with
     | some (_,n)=>match Nat.beq n N&&(decide (0≤i)&&decide (i<len))with
       | true=>some (.c (.p id ((off+i.toNat)*N)))
       | false=>none
     | none=>none
   | .c (.p id off)=>match CL P t with
     | some (k,_,n)=>match decide (0≤i)&&decide (i<k)with
       | true=>some (.c (.p id (off+i.toNat*n)))
       | false=>none
     | none=>none
   | .c (.g g off)=>match CL P t with
     | some (k,_,n)=>match decide (0≤i)&&decide (i<k)with
       | true=>some (.c (.g g (off+i.toNat*n)))
       | false=>none
     | none=>none
   | _=>none
 | _=>none
def lW (P:Program) (t:TypeId) (x y:Kv):Option Kv:=match y with
 | .c (.i _ i)=>match x with
   | .c (.s s)=>match Cj P t&&(decide (0≤i)&&decide (i<s.length))with
     | true=>some (.c (.i .u8 (s.getD i.toNat 0).toNat))
     | false=>none
   | .a cs=>match CL P t with
     | some (k,e,n)=>match Fd P e with
       | some (ag,_)=>match decide (0≤i)&&(decide (i<k)&&Nat.blt 0 n)with
         | true=>Ln ag (i.toNat*n) n cs
         | false=>none
       | none=>none
     | none=>none
   | _=>none
 | _=>none
theorem e8 {s:TypeId} {f:Nat} {x r:Kv} {u:Value} (hx:KV G x u) (h:eY P s f x=some r): ∃ v,KV G r v∧ ∀ w',(Instr.fieldAt s u f).run P w'= .ok v w':=by
 unfold eY at h
 split at h
 ·simp only [KV,KC]at hx
  obtain⟨b,hb,rfl⟩:=hx
  split at h
  ·rename_i o ag n hf
   split at h
   ·rename_i hn
    injection h with h;subst h
    exact⟨_,⟨b,hb,rfl⟩,fun w'=>run_fieldAt' hf (by simpa using hn) b _ w'⟩
   ·cases h
  ·cases h
 ·cases h
theorem iO {t:TypeId} {f:Nat} {x r:Kv} {u:Value} (hx:KV G x u) (h:lV P t f x=some r): ∃ v,KV G r v∧ ∀ w',(Instr.field t u f).run P w'= .ok v w':=by
 unfold lV at h
 split at h
 ·obtain⟨arr,rfl,hr⟩:=hx
  split at h
  ·rename_i o ag n hf
   obtain⟨fs,y,h1,h2,h3,h4⟩:=Of hf
   obtain⟨v,q1,q2⟩:=WF h4 hr h
   exact⟨v,q1,by simp_all [Instr.field,run_underlying,asAgg]⟩
  ·cases h
 ·cases h
theorem fa {t:TypeId} {x y r:Kv} {u v:Value} (hx:KV G x u) (hy:KV G y v) (h:eZ P t x y=some r): ∃ z,KV G r z∧ ∀ w',(Instr.indexAt t u v).run P w'= .ok z w':=by
 unfold eZ at h
 split at h
 ·simp only [KV,KC]at hy;subst hy
  split at h
  ·simp only [KV,KC]at hx
   obtain⟨b,cap,o,g1,g2,g3,g4,g5,rfl⟩:=hx
   split at h
   ·rename_i e n hse
    split at h
    ·rename_i hq
     injection h with h;subst h
     simp only [Bool.and_eq_true,decide_eq_true_eq]at hq
     obtain⟨q0,q1,q2⟩:=hq
     have q0:=Nat.eq_of_beq_eq_true q0
     subst q0
     refine⟨_,⟨b,g1,rfl⟩,fun w'=>?_⟩
     rw [Ck hse b o _ _ _ _ q1 q2 w',g5 (by omega),Nat.add_mul]
    ·cases h
   ·cases h
  ·simp only [KV,KC]at hx
   obtain⟨b,g1,rfl⟩:=hx
   split at h
   ·rename_i e n hae
    split at h
    ·rename_i hq
     injection h with h;subst h
     simp only [Bool.and_eq_true,decide_eq_true_eq]at hq
     exact⟨_,⟨b,g1,rfl⟩,fun w'=>CM hae b _ _ _ hq.1 hq.2 w'⟩
    ·cases h
   ·cases h
  ·simp only [KV,KC]at hx;subst hx
   split at h
   ·rename_i e n hae
    split at h
    ·rename_i hq
     injection h with h;subst h
     simp only [Bool.and_eq_true,decide_eq_true_eq]at hq
     exact⟨_,rfl,fun w'=>CM hae _ _ _ _ hq.1 hq.2 w'⟩
    ·cases h
   ·cases h
  ·cases h
 ·cases h
theorem iP {t:TypeId} {x y r:Kv} {u v:Value} (hx:KV G x u) (hy:KV G y v) (h:lW P t x y=some r): ∃ z,KV G r z∧ ∀ w',(Instr.index t u v).run P w'= .ok z w':=by
 unfold lW at h
 split at h
 ·rename_i k i
  simp only [KV,KC]at hy;subst hy
  split at h
  ·rename_i s
   simp only [KV,KC]at hx;subst hx
   split at h
   ·rename_i hq
    injection h with h;subst h
    simp only [Bool.and_eq_true,decide_eq_true_eq]at hq
    obtain⟨h1,h2,h3⟩:=hq
    refine⟨_,rfl,fun w'=>?_⟩
    have hlt:i.toNat<s.length:=by omega
    have hg:(⟨s.toArray⟩:ByteArray)[i.toNat]? =some s[i.toNat]:=by
     rw [getElem?_pos _ _ (by simpa [ByteArray.size] using hlt)]
     rfl
    simp_all [Instr.index,asIntOf,run_underlying,BM]
   ·cases h
  ·split at h
   ·rename_i m e n hae
    split at h
    ·rename_i ag n' hts
     split at h
     ·rename_i hq
      simp only [Bool.and_eq_true,decide_eq_true_eq,Nat.blt_eq]at hq
      obtain⟨hu,inf,hi,hsz⟩:=Eh hae
      obtain⟨d,inf',hu',hd,hi',hsz'⟩:=Br hts
      rw [hi]at hi';injection hi' with hi';subst hi'
      have hnn:n'=n:=by omega
      subst hnn
      obtain⟨arr,rfl,hr⟩:=hx
      obtain⟨z,q1,q2⟩:=WF hts hr h
      exact⟨z,q1,by simp_all [Instr.index,asIntOf,run_underlying,sizeOf,typeInfo]⟩
     ·cases h
    ·cases h
   ·cases h
  ·cases h
 ·cases h
def lX (P:Program) (t:TypeId):Kv→Option Kv
 | .c (.s s)=>match Cj P t with
   | true=>some (.c (.i .i64 s.length))
   | false=>none
 | .c (.l _ _ _ len _)=>match BV P t with
   | true=>some (.c (.i .i64 len))
   | false=>none
 | .c .e =>match BV P t with
   | true=>some (.c (.i .i64 0))
   | false=>none
 | .c (.z (.slice none 0 0))=>match BV P t with
   | true=>some (.c (.i .i64 0))
   | false=>none
 | _=>match CL P t with
   | some (k,_,_)=>some (.c (.i .i64 k))
   | none=>none
theorem iQ {t ty:TypeId} {x r:Kv} {u:Value} (hx:KV G x u) (h:lX P t x=some r): ∃ v,KV G r v∧ ∀ w',(Builtin.len_ #[t] ty #[u]).run P w'= .ok v w':=by
 unfold lX at h
 split at h
 ·simp only [KV,KC]at hx;subst hx
  split at h
  ·injection h with h;subst h
   exact⟨_,rfl,(by simp_all [Builtin.len_,run_underlying,BM,goInt,Ob])⟩
  ·cases h
 ·simp only [KV,KC]at hx
  obtain⟨b,cap,o,g1,g2,g3,g4,g5,rfl⟩:=hx
  split at h
  ·rename_i hs
   injection h with h;subst h
   obtain⟨e,he⟩:=Bi hs
   exact⟨_,rfl,(by simp_all [Builtin.len_,run_underlying,goInt])⟩
  ·cases h
 ·simp only [KV,KC]at hx
  obtain⟨p,rfl⟩:=hx
  split at h
  ·rename_i hs
   injection h with h;subst h
   obtain⟨e,he⟩:=Bi hs
   exact⟨_,rfl,(by simp_all [Builtin.len_,run_underlying,goInt])⟩
  ·cases h
 ·simp only [KV,KC]at hx
  obtain⟨rfl,_⟩:=hx
  split at h
  ·rename_i hs
   injection h with h;subst h
   obtain⟨e,he⟩:=Bi hs
   exact⟨_,rfl,(by simp_all [Builtin.len_,run_underlying,goInt])⟩
  ·cases h
 ·split at h
  ·rename_i k e n hae
   injection h with h;subst h
   obtain⟨hu,_⟩:=Eh hae
   exact⟨_,rfl,(by simp_all [Builtin.len_,run_underlying,goInt])⟩
  ·cases h
end
end
end Go.PL
namespace Go.PL
open Go Go.RowKit
noncomputable section
section
variable {P:Program} {G:Kg}
def Ji:List Kv→Option (List Kc)
 | []=>some []
 | .c x::vs=>match Ji vs with
   | some cs=>some (x::cs)
   | none=>none
 | _=>none
theorem Qi: ∀ {vs:List Kv} {cs:List Kc} {us:List Value},Ji vs=some cs→Hr G vs us→KL G cs us
 | [],cs,us,h,hv=>by simp only [Ji]at h;injection h with h;subst h;simp only [Hr]at hv;subst hv;rfl
 | .c x::vs,cs,us,h,⟨v,r,e,h1,h2⟩=>by
   simp only [Ji]at h
   split at h
   ·rename_i xs hx
    injection h with h;subst h e
    exact⟨v,r,rfl,h1,Qi hx h2⟩
   ·cases h
 | .a _::_,_,_,h,_=>by simp [Ji]at h
 | .t _::_,_,_,h,_=>by simp [Ji]at h
 | .sk ::_,_,_,h,_=>by simp [Ji]at h
 | .u ::_,_,_,h,_=>by simp [Ji]at h
def Ee:List Kv→Option (List V)
 | []=>some []
 | .c (.i k n)::vs=>match Ee vs with
   | some cs=>some (.c (.int k n)::cs)
   | none=>none
 | _=>none
theorem Qj {w:World} {H:Au}: ∀ {vs:List Kv} {cs:List V} {us:List Value},Ee vs=some cs→Hr G vs us→An w H cs us
 | [],cs,us,h,hv=>by simp only [Ee]at h;injection h with h;subst h;simp only [Hr]at hv;subst hv;simp [An]
 | .c (.i k n)::vs,cs,us,h,⟨v,r,e,h1,h2⟩=>by
   simp only [Ee]at h
   split at h
   ·rename_i xs hx
    injection h with h;subst h e
    simp only [An]
    exact⟨v,r,rfl,by simpa only [Ab,Ac,KV,KC] using h1,Qj hx h2⟩
   ·cases h
 | .c (.b _)::_,_,_,h,_=>by simp [Ee]at h
 | .c (.s _)::_,_,_,h,_=>by simp [Ee]at h
 | .c (.z _)::_,_,_,h,_=>by simp [Ee]at h
 | .c (.p ..)::_,_,_,h,_=>by simp [Ee]at h
 | .c (.l ..)::_,_,_,h,_=>by simp [Ee]at h
 | .c .e ::_,_,_,h,_=>by simp [Ee]at h
 | .c (.f ..)::_,_,_,h,_=>by simp [Ee]at h
 | .c (.g ..)::_,_,_,h,_=>by simp [Ee]at h
 | .c .u ::_,_,_,h,_=>by simp [Ee]at h
 | .a _::_,_,_,h,_=>by simp [Ee]at h
 | .t _::_,_,_,h,_=>by simp [Ee]at h
 | .sk ::_,_,_,h,_=>by simp [Ee]at h
 | .u ::_,_,_,h,_=>by simp [Ee]at h
def oC (mn:Bool) (vs:List Kv):Option Kv:=match Ee vs with
 | some ys=>match FJ ys with
   | some (k,x,zs)=>some (.c (.i k (match mn with
     | true=>zs.foldl (fun a y=>if y<a then y else a) x
     | false=>zs.foldl (fun a y=>if a<y then y else a) x)))
   | none=>none
 | none=>none
def pH (P:Program) (op:BinOp) (t:TypeId) (k:Bool):Kv→Kv→Option Kv
 | .c (.z .nilIface), .c (.z .nilIface)=>match k&&Fl P t with
   | true=>Qe op true
   | false=>none
 | _,_=>none
theorem lY {op:BinOp} {t:TypeId} {x y r:Kv} {u v:Value} {ox oy:Operand} (hx:KV G x u) (hy:KV G y v) (h:pH P op t (AL ox||AL oy) x y=some r):
 ∃ z,KV G r z∧ ∀ w',(do eqGuard op t ox oy u v;binOp op t u v).run P w'= .ok z w':=by
 unfold pH at h
 split at h
 ·split at h
  ·rename_i hb
   simp only [Bool.and_eq_true]at hb
   obtain⟨rfl,_⟩:=hx
   obtain⟨rfl,_⟩:=hy
   refine Ga h (by simp) (fun w'=>?_) (fun w'=>?_)
   ·have hk:=hb.1
    cases ox<;>cases oy<;>simp_all [AL,eqGuard]<;>(try (split<;>rfl))
   ·grind [Hw,J5]
  ·cases h
 ·cases h
def nF:Kv→Option Kv
 | .c (.l id N off _ (_+1))=>some (.c (.p id (off*N)))
 | _=>none
def QR (P:Program) (tm:Kt Kv) (op:Op):Option Kv:=match op with
 | .move x=>some (E5 tm x)
 | .assign x=>some (E5 tm x)
 | .pick c a b=>match E5 tm c with
   | .c (.b q)=>match q with
     | true=>some (E5 tm a)
     | false=>some (E5 tm b)
   | _=>none
 | .nilCheck x=>match E5 tm x with
   | .c (.p id off)=>some (.c (.p id off))
   | .c (.g g off)=>some (.c (.g g off))
   | .c (.f f x y)=>some (.c (.f f x y))
   | _=>none
 | .binOp op t x y _=>match lT P op t (E5 tm x) (E5 tm y)with
   | some r=>some r
   | none=>pH P op t (AL x||AL y) (E5 tm x) (E5 tm y)
 | .unOp op _ x=>pG op (E5 tm x)
 | .convert src dst x=>eW P src dst (E5 tm x)
 | .fieldAddr s x f=>eY P s f (E5 tm x)
 | .field t x f=>lV P t f (E5 tm x)
 | .indexAddr t x i=>eZ P t (E5 tm x) (E5 tm i)
 | .index t x i=>lW P t (E5 tm x) (E5 tm i)
 | .extract x i=>match E5 tm x with
   | .t vs=>vs[i]?
   | _=>none
 | .build t ps=>Yh P tm t ps.toList
 | .slice t x lo hi mx=>Yj P t (E5 tm x) (lo.map (E5 tm)) (hi.map (E5 tm)) (mx.map (E5 tm))
 | .makeFunc fn fi ca=>match fn with
   | .func f=>match Ji (fi.toList.map (E5 tm)),Ji (ca.toList.map (E5 tm))with
     | some xs,some ys=>some (.c (.f f xs ys))
     | _,_=>none
   | _=>none
 | .call c=>match c.callee,c.args.toList,c.argTypes.toList with
   | .builtin .len,[x],[t]=>lX P t (E5 tm x)
   | .builtin .min,xs,_=>oC true (xs.map (E5 tm))
   | .builtin .max,xs,_=>oC false (xs.map (E5 tm))
   | .builtin .unsafeSliceData,[x],[_]=>nF (E5 tm x)
   | _,_,_=>none
 | _=>none
theorem Uq {n:Nat} {tm:Kt Kv} {a:Act} (h:SK n tm a G) (x:Option Operand):KO G (x.map (E5 tm)) (x.map a.eval):=by
 cases x with
 | none=>trivial
 | some x=>exact h.ev x
theorem Zz {n:Nat} {tm:Kt Kv} {a:Act} (h:SK n tm a G) {o:Oper} {r:Kv} (hs:QR P tm o.op=some r):
 ∃ v,KV G r v∧ ∀ w',(execOp a.eval o).run P w'= .ok (.value v) w':=by
 cases ho:o.op<;>simp only [QR,ho]at hs<;>try (cases hs;done)
 case move x=>injection hs with hs;subst hs;exact⟨_,h.ev x,fun w'=>by simp [execOp,ho]⟩
 case assign x=>injection hs with hs;subst hs;exact⟨_,h.ev x,fun w'=>by simp [execOp,ho]⟩
 case pick c x y=>
  have hc:=h.ev c
  split at hs
  ·rename_i q hq
   rw [hq]at hc
   simp only [KV,KC]at hc
   split at hs
   ·injection hs with hs;subst hs
    exact⟨_,h.ev x,by simp_all [execOp,asBool]⟩
   ·injection hs with hs;subst hs
    exact⟨_,h.ev y,by simp_all [execOp,asBool]⟩
  ·cases hs
 case nilCheck x=>
  have hx:=h.ev x
  split at hs
  ·rename_i id off e
   rw [e]at hx
   injection hs with hs;subst hs
   refine⟨_,hx,?_⟩
   obtain⟨b,hb,hv⟩:=hx
   simp_all [execOp]
  ·rename_i g off e
   rw [e]at hx
   injection hs with hs;subst hs
   refine⟨_,hx,?_⟩
   simp only [KV,KC]at hx
   simp_all [execOp]
  ·rename_i f fi ca e
   rw [e]at hx
   injection hs with hs;subst hs
   refine⟨_,hx,?_⟩
   obtain⟨x',y',hv,_⟩:=hx
   simp_all [execOp]
  ·cases hs
 case binOp op t x y t'=>
  obtain⟨v,q1,q2⟩: ∃ z,KV G r z∧ ∀ w',(do eqGuard op t x y (a.eval x) (a.eval y);binOp op t (a.eval x) (a.eval y)).run P w'= .ok z w':=by
   split at hs
   ·rename_i r' hr
    injection hs with hs;subst hs
    exact iN (P:=P) (ox:=x) (oy:=y) (h.ev x) (h.ev y) hr
   ·exact lY (P:=P) (h.ev x) (h.ev y) hs
  refine⟨v,q1,fun w'=>?_⟩
  have:=q2 w'
  simp only [execOp,ho,Sem.run_bind]at this ⊢
  simp_all
 case unOp op t x=>
  obtain⟨v,q1,q2⟩:=lU (P:=P) (h.ev x) hs
  exact⟨v,q1,by simp_all [execOp]⟩
 case convert src dst x=>
  obtain⟨v,q1,q2⟩:=eX (P:=P) (h.ev x) hs
  exact⟨v,q1,by simp_all [execOp]⟩
 case fieldAddr s x f=>
  obtain⟨v,q1,q2⟩:=e8 (P:=P) (h.ev x) hs
  exact⟨v,q1,by simp_all [execOp]⟩
 case field s x f=>
  obtain⟨v,q1,q2⟩:=iO (P:=P) (h.ev x) hs
  exact⟨v,q1,by simp_all [execOp]⟩
 case indexAddr t x i=>
  obtain⟨v,q1,q2⟩:=fa (P:=P) (h.ev x) (h.ev i) hs
  exact⟨v,q1,by simp_all [execOp]⟩
 case index t x i=>
  obtain⟨v,q1,q2⟩:=iP (P:=P) (h.ev x) (h.ev i) hs
  exact⟨v,q1,by simp_all [execOp]⟩
 case extract x i=>
  have hx:=h.ev x
  split at hs
  ·rename_i vs e
   rw [e]at hx
   obtain⟨arr,hv,hr⟩:=hx
   obtain⟨v,q1,q2⟩:=hr.get hs
   have q1':arr[i]? =some v:=by simpa using q1
   exact⟨v,q2,by simp_all [execOp,Instr.extract]⟩
  ·cases hs
 case build t ps=>
  obtain⟨v,q1,q2⟩:=bB (P:=P) h hs
  exact⟨v,q1,by simp_all [execOp]⟩
 case slice t x lo hi mx=>
  obtain⟨v,q1,q2⟩:=bD (P:=P) (h.ev x) (Uq h lo) (Uq h hi) (Uq h mx) hs
  exact⟨v,q1,by simp_all [execOp]⟩
 case makeFunc fn fi ca=>
  split at hs
  ·rename_i f
   split at hs
   ·rename_i xs ys e1 e2
    injection hs with hs;subst hs
    have k1:=Qi e1 (h.evs fi.toList)
    have k2:=Qi e2 (h.evs ca.toList)
    exact⟨.func (.func f) (fi.map a.eval) (ca.map a.eval),⟨_,_,rfl,by simpa using k1,by simpa using k2⟩,by simp_all [execOp,Instr.makeFunc]⟩
   ·cases hs
  ·cases hs
 case call c=>
  split at hs
  ·rename_i x t hcal hxs hts
   have ea:c.args= #[x]:=by grind
   have et:c.argTypes= #[t]:=by grind
   obtain⟨v,q1,q2⟩:=iQ (P:=P) (ty:=o.type) (h.ev x) hs
   exact⟨v,q1,by simp_all [execOp,resolve,invoke,builtin]⟩
  ·rename_i xs ts hcal
   unfold oC at hs
   split at hs
   ·rename_i ys hy
    have hr:=Qj (w:=default) (H:=gx G) hy (h.evs c.args.toList)
    split at hs
    ·rename_i k x zs hi
     injection hs with hs;subst hs
     obtain⟨v,q1,q2⟩:=Oh (P:=P) (ts:=c.argTypes) (ty:=o.type) (us:=c.args.map a.eval) (vs:=ys) (w:=default) (G:=gx G) (by simpa using hr) (by simp only [S0,hi])
     refine⟨v,?_,by simp_all [execOp,resolve,invoke,builtin]⟩
     simp only [S0,hi]at q1
     simpa only [KV,KC,Ab,Ac] using q1
    ·cases hs
   ·cases hs
  ·rename_i xs ts hcal
   unfold oC at hs
   split at hs
   ·rename_i ys hy
    have hr:=Qj (w:=default) (H:=gx G) hy (h.evs c.args.toList)
    split at hs
    ·rename_i k x zs hi
     injection hs with hs;subst hs
     obtain⟨v,q1,q2⟩:=Oi (P:=P) (ts:=c.argTypes) (ty:=o.type) (us:=c.args.map a.eval) (vs:=ys) (w:=default) (G:=gx G) (by simpa using hr) (by simp only [S1,hi])
     refine⟨v,?_,by simp_all [execOp,resolve,invoke,builtin]⟩
     simp only [S1,hi]at q1
     simpa only [KV,KC,Ab,Ac] using q1
    ·cases hs
   ·cases hs
  ·rename_i x t hcal hxs hts
   have ea:c.args= #[x]:=by grind
   have et:c.argTypes= #[t]:=by grind
   unfold nF at hs
   split at hs
   ·rename_i id N off len k hx
    injection hs with hs;subst hs
    have hx':=h.ev x
    rw [hx]at hx'
    obtain⟨b,cap,o,g1,g2,g3,g4,g5,g6⟩:=hx'
    have ho:=g5 (.inl (by omega))
    subst ho
    refine⟨_,⟨b,g1,rfl⟩,fun w'=>?_⟩
    have:=Lib.run_unsafeSliceData_row (P:=P) (w:=w') c.argTypes o.type ⟨b,off*N,none⟩ len (cap - off) (by omega)
    simp_all [execOp,resolve,invoke,builtin]
   ·cases hs
  ·cases hs
def Ur (I:World→Prop) (gt:List (Nat×List Kc)):Prop:= ∀ g cs,(g,cs)∈gt→ ∀ w,I w→ ∃ cur T fz vs,w.heap[g]? =some (.cells cur T fz)∧cur.toList=vs∧KL ⟨fun _=>none,fun _=>none,[]⟩ cs vs
def oD:List (Nat×List Kc)→Nat→Option (List Kc)
 | [],_=>none
 | (g,cs)::r,n=>match Nat.beq g n with
   | true=>some cs
   | false=>oD r n
theorem ZA: ∀ {gt:List (Nat×List Kc)} {n:Nat} {cs:List Kc},oD gt n=some cs→(n,cs)∈gt
 | [],_,_,h=>by cases h
 | (g,ds)::r,n,cs,h=>by
   simp only [oD]at h
   split at h
   ·rename_i hb
    have:=Nat.eq_of_beq_eq_true hb
    injection h with h;subst h this;simp
   ·exact List.mem_cons_of_mem _ (ZA h)
def lZ (P:Program) (gt:List (Nat×List Kc)) (h:Kt Ke) (tm:Kt Kv) (op:Op):Option Kv:=match op with
 | .load t x=>match Fd P t with
   | some (ag,n)=>match E5 tm x with
     | .c (.p id off)=>match h.get id with
       | some e=>Ln ag off n e.cs
       | none=>none
     | .c (.g g off)=>match oD gt g with
       | some cs=>Ln ag off n cs
       | none=>none
     | _=>none
   | none=>none
 | _=>none
theorem GO {w:World} {t:TypeId} {ag:Bool} {n b off:Nat} {cs:List Kc} {cur:Array Value} {T:TypeId} {fz:Nat×Nat} {r:Kv} (ht:Fd P t=some (ag,n)) (hh:w.heap[b]? =some (.cells cur T fz)) (hl:KL G cs (cur.toList.take cs.length)) (hs:cs.length≤cur.size) (hp:Ln ag off n cs=some r):
 ∃ v,KV G r v∧(Instr.loadAt t (.pointer (some ⟨b,off,none⟩))).run P w= .ok v w:=by
 obtain⟨d,i,hu,hd,hi,hsz⟩:=Br ht
 have hcell: ∀ k,w.cell? ⟨b,k,none⟩=cur[k]? :=fun k=>by simp [World.cell?,hh]
 rcases Nw hp with ⟨rfl,h1,rfl⟩ | ⟨rfl,h1,c,h2,rfl⟩
 ·have hl2:((cur.toList.drop off).take n)=(((cur.toList.take cs.length).drop off).take n):=by
   rcases h1 with h1 | h1
   ·rw [List.drop_take,List.take_take]
    congr 1;omega
   ·subst h1;simp
  have hlen:((cs.drop off).take n).length =n:=by
   rcases h1 with h1 | h1
   ·simp;omega
   ·subst h1;simp
  refine⟨.agg ((cur.toList.drop off).take n).toArray,⟨_,rfl,?_⟩,?_⟩
  ·rw [hl2]
   simpa using (hl.drop off).take n
  ·refine run_loadAt_mid w b off t ((cur.toList.drop off).take n) d ?_ hu hd ?_
   ·intro j v hv
    rw [hcell]
    rw [List.getElem?_take]at hv
    split at hv
    ·rw [List.getElem?_drop]at hv
     simpa using hv
    ·cases hv
   ·have:=((hl.drop off).take n).len
    rw [hl2, ←this,hlen, ←hsz]
    simp [hi]
 ·obtain⟨v,hv,hr⟩:=hl.get h2
  refine⟨v,hr,Cd hu hd ?_⟩
  rw [hcell]
  rw [List.getElem?_take]at hv
  split at hv
  ·simpa using hv
  ·cases hv
theorem fb {F:KF} {c n:Nat} {h:Kt Ke} {w:World} {gt:List (Nat×List Kc)} {tm:Kt Kv} {a:Act} (hgt:Ur F.I gt) (hk:HK F c h w G) (hsk:SK n tm a G) {o:Oper} {r:Kv} (hs:lZ P gt h tm o.op=some r):
 ∃ v,KV G r v∧(execOp a.eval o).run P w= .ok (.value v) w:=by
 cases ho:o.op<;>simp only [lZ,ho]at hs<;>try (cases hs;done)
 rename_i t x
 have hx:=hsk.ev x
 split at hs
 ·rename_i ag m ht
  split at hs
  ·rename_i id off e
   rw [e]at hx
   obtain⟨b,hb,hv⟩:=hx
   split at hs
   ·rename_i d hd
    obtain⟨b',T,cur,fz,_,h1,h2,h3,h4,_⟩:=hk.ent id d hd
    rw [hb]at h1;injection h1 with h1;subst h1
    obtain⟨v,q1,q2⟩:=GO ht h2 h4 h3 hs
    exact⟨v,q1,by simp_all [execOp]⟩
   ·cases hs
  ·rename_i g off e
   rw [e]at hx
   simp only [KV,KC]at hx
   split at hs
   ·rename_i cs hcs
    have hI:F.I w:=hk.inv w hk.hsize hk.ext
    obtain⟨cur,T,fz,vs,h1,h2,h3⟩:=hgt g cs (ZA hcs) w hI
    have h3':KL G cs vs:=h3.mono (G':=G) (Kg.le.mk (fun _ _ q=>by cases q) (fun _ _ q=>by cases q))
    have hl:=h3'.len
    subst h2
    obtain⟨v,q1,q2⟩:=GO ht h1 (by rw [hl,List.take_length];exact h3') (by simpa using Nat.le_of_eq hl) hs
    exact⟨v,q1,by simp_all [execOp]⟩
   ·cases hs
  ·cases hs
 ·cases hs
end
end
end Go.PL
namespace Go.PL
open Go Go.RowKit
noncomputable section
section
variable {P:Program} {G:Kg}
theorem SH: ∀ {cs:List Kc} {vs:List Value},cs.length=vs.length→(∀ (i:Nat) (c:Kc) (v:Value),cs[i]? =some c→vs[i]? =some v→KC G c v)→KL G cs vs
 | [],[],_,_=>rfl
 | [],_::_,h,_=>by simp at h
 | _::_,[],h,_=>by simp at h
 | c::cs,v::vs,h,hr=>⟨v,vs,rfl,hr 0 c v (by simp) (by simp),SH (by simpa using h) (fun i c' v' h1 h2=>hr (i+1) c' v' (by simpa using h1) (by simpa using h2))⟩
def Fc (z:List Kc):Nat→List Kc
 | 0=>[]
 | k+1=>z++Fc z k
theorem EC (z:List Kc): ∀ k,(Fc z k).length =k*z.length
 | 0=>by simp [Fc]
 | k+1=>by simp [Fc,EC z k,Nat.add_mul];omega
theorem Qk (z:List Kc): ∀ (k i:Nat),i<k*z.length→(Fc z k)[i]? =z[i % z.length]?
 | 0,i,h=>by simp at h
 | k+1,i,h=>by
   simp only [Fc,List.getElem?_append]
   split
   ·rename_i hi;rw [Nat.mod_eq_of_lt hi]
   ·rename_i hi
    rw [Nat.add_mul]at h
    have e1:=Qk z k (i - z.length) (by omega)
    rw [e1, ←Nat.mod_eq_sub_mod (by omega)]
theorem Mw {z:List Kc} {zv:Array Value} (h:KL G z zv.toList) (hz:0<z.length) (k:Nat):KL G (Fc z k) ((Array.range (k*zv.size)).map (zv[· % zv.size]!)).toList :=by
 have hl:z.length=zv.size:=by simpa using h.len
 refine SH (by simp [EC,hl]) (fun i c v h1 h2=>?_)
 simp only [Array.toList_map,List.getElem?_map,Array.toList_range]at h2
 by_cases hi:i<k*z.length
 ·rw [Qk z k i hi]at h1
  rw [List.getElem?_range (by rw [←hl];omega)]at h2
  simp only [Option.map_some,Option.some.injEq]at h2
  obtain⟨v',q1,q2⟩:=h.get h1
  have hm:i % z.length<z.length:=Nat.mod_lt _ hz
  grind
 ·have:=List.getElem?_eq_none_iff.2 (show (Fc z k).length ≤i by rw [EC];omega)
  rw [this]at h1;cases h1
def mI (P:Program) (tm:Kt Kv) (op:Op) (id:Nat):Option (Ke×Kv):=match op with
 | .alloc T=>match Qg P T with
   | some z=>some (⟨some (T,0),z,false⟩, .c (.p id 0))
   | none=>none
 | .box _ x=>match (E5 tm x).cells with
   | some cs=>some (⟨none,cs,false⟩, .c (.p id 0))
   | none=>none
 | .buildSlice t len ps=>match BN P t with
   | some (E,n,_)=>match Qg P E with
     | some z=>match Nat.beq z.length n&&(Nat.blt 0 n&&Nat.ble (len*n) 16777216)with
       | true=>match Lo (fun i=>some (i*n,n)) (Fc z len) (eT tm ps.toList)with
         | some cs=>some (⟨some (E,n),cs,false⟩, .c (.l id n 0 len len))
         | none=>none
       | false=>none
     | none=>none
   | none=>none
 | .makeSlice t l c=>match E5 tm l,E5 tm c,BN P t with
   | .c (.i _ l), .c (.i _ c),some (E,n,by')=>match Qg P E with
     | some z=>match Nat.beq z.length n&&(Nat.blt 0 n&&(decide (0≤l)&&(decide (l≤c)&&(decide (c*by'≤140737488355328)&&decide (c≤maxLen)))))with
       | true=>some (⟨some (E,n),Fc z c.toNat,false⟩, .c (.l id n 0 l.toNat c.toNat))
       | false=>none
     | none=>none
   | _,_,_=>none
 | .convert src dst x=>match E5 tm x with
   | .c (.s s)=>match Cj P src,VI P dst with
     | true,some e=>match Nat.ble s.length 140737488355328 with
       | true=>some (⟨none,s.map fun b=> .i .u8 b.toNat,true⟩, .c (.l id 1 0 s.length s.length))
       | false=>none
     | _,_=>none
   | _=>none
 | _=>none
theorem SI {place:Nat→Option (Nat×Nat)}: ∀ (l:List (Nat×Kv)) (b out:List Kc),Lo place b l=some out→out.length=b.length
 | [],b,out,h=>by simp only [Lo,Option.some.injEq]at h;subst h;rfl
 | (i,v)::r,b,out,h=>by
   simp only [Lo]at h
   split at h
   ·rename_i off size cs _ _
    split at h
    ·rename_i hb
     have hb1:=Nat.eq_of_beq_eq_true hb
     split at h
     ·rename_i r0 hr0
      obtain⟨e0,hb2⟩:=I4 hr0
      have:=SI r _ out h
      rw [e0]at this
      simp at this
      omega
     ·cases h
    ·cases h
   ·cases h
theorem fc {F:KF} {c c' n:Nat} {h:Kt Ke} {w:World} {tm:Kt Kv} {a:Act} (hk:HK F c h w G) (hsk:SK n tm a G) {id:Nat} (hid:id<c') (hc:c≤c') (hun:G.blk id=none∧G.cap id=none) (hh:h.get id=none) {o:Oper} {e:Ke} {v:Kv} (hs:mI P tm o.op id=some (e,v)):
 ∃ u w' G',(execOp a.eval o).run P w= .ok (.value u) w'∧HK F c' (h.put id (some e)) w' G'∧C9 h G w (h.put id (some e)) G' w'∧KV G' v u∧(∀ i,i ≠ id→G'.blk i=G.blk i∧G'.cap i=G.cap i)∧G'.blk id=some w.heap.size:=by
 have fin: ∀ {cur:Array Value} {T:TypeId} {k:Nat} {u:Value},(execOp a.eval o).run P w= .ok (.value u) (w.alloc (.cells cur T))→e.cs.length≤cur.size→KL G e.cs (cur.toList.take e.cs.length)→
  (∀ E N,e.row=some (E,N)→T=E∧(N=0→cur.size=e.cs.length)∧(0<N→cur.size=k*N∧k≤maxLen))→(∀ G':Kg,G'.blk id=some w.heap.size→(G'.cap id=WE e.row k)→KV G' v u)→
  ∃ u w' G',(execOp a.eval o).run P w= .ok (.value u) w'∧HK F c' (h.put id (some e)) w' G'∧C9 h G w (h.put id (some e)) G' w'∧KV G' v u∧(∀ i,i ≠ id→G'.blk i=G.blk i∧G'.cap i=G.cap i)∧G'.blk id=some w.heap.size:=fun {cur T k u} q1 q2 q3 q4 q5=>by
  obtain⟨k1,k2⟩:=hk.made id hid hc hun hh q2 q3 q4
  exact⟨u,_,_,q1,k1,k2,q5 _ (by simp [Kg.set_blk]) (by simp [Kg.set_cap]),fun i hi=>by rw [Kg.set_blk,Kg.set_cap,if_neg hi,if_neg hi];exact⟨rfl,rfl⟩,by simp [Kg.set_blk]⟩
 cases ho:o.op<;>simp only [mI,ho]at hs<;>try (cases hs;done)
 case alloc T=>
  split at hs
  ·rename_i z hz
   injection hs with hs;injection hs with h1 h2;subst h1 h2
   obtain⟨i,zv,hi,hzv,hr⟩:=IG (G:=G) hz
   have hl:=hr.len
   refine fin (cur:=zv.cells) (T:=T) (k:=0) (u:= .pointer (some ⟨w.heap.size,0,none⟩)) ?_ (by simp at hl;simp [hl]) (by rw [hl,List.take_length];exact hr) (fun E N q=>by injection q with q;injection q with q1 q2;subst q1 q2;exact⟨rfl,fun _=>by simp at hl;simp [hl],fun q=>absurd q (by omega)⟩) (fun G' q _=>⟨_,q,rfl⟩)
   simp_all [execOp,Instr.alloc,run_zeroValue',newVar,newRow]
  ·cases hs
 case box T x=>
  split at hs
  ·rename_i cs hcs
   injection hs with hs;injection hs with h1 h2;subst h1 h2
   have hr:=(hsk.ev x).cells hcs
   have hl:=hr.len
   refine fin (cur:=(a.eval x).cells) (T:=T) (k:=0) (u:= .pointer (some ⟨w.heap.size,0,none⟩)) ?_ (by simp at hl;simp [hl]) (by rw [hl,List.take_length];exact hr) (by simp) (fun G' q _=>⟨_,q,rfl⟩)
   simp [execOp,ho,Instr.box,newVar,newRow]
  ·cases hs
 case buildSlice t len ps=>
  split at hs
  ·rename_i E m by' hsel
   split at hs
   ·rename_i z hz
    split at hs
    ·rename_i hb
     simp only [Bool.and_eq_true,Nat.ble_eq,Nat.blt_eq]at hb
     have hb1:=Nat.eq_of_beq_eq_true hb.1
     obtain⟨_,hb2,hb3⟩:=hb
     split at hs
     ·rename_i cs hf
      injection hs with hs;injection hs with h1 h2;subst h1 h2
      obtain⟨i,zv,hu,hi,hzv,hsz,hby,hzs⟩:=A8 hsel
      obtain⟨i',zv',hi',hzv',hr⟩:=IG (G:=G) hz
      rw [hi]at hi';injection hi' with hi';subst hi'
      rw [hzv]at hzv';injection hzv' with hzv';subst hzv'
      have hzr:=Mw hr (by omega) len
      obtain⟨arr',q1,q2⟩:=Qf hf (Qh hsk ps.toList) hzr
      have hcl:cs.length=len*m:=by rw [SI _ _ _ hf,EC,hb1]
      have hl:=q2.len
      have hM:maxLen=9223372036854775807:=rfl
      have hlen:len≤maxLen:=by
       have:len*1≤len*m:=Nat.mul_le_mul_left _ hb2
       omega
      have q1':Instr.fill (fun i=>some (i*m,m)) ((Array.range (len*m)).map (zv.cells[· % zv.cells.size]!)) (ps.map fun(i,x)=>(i,a.eval x)).toList =some arr':=by
       rw [hzs]at q1
       simpa [hzs] using q1
      refine fin (cur:=arr') (T:=E) (k:=len) (u:= .slice (some ⟨w.heap.size,0,none⟩) len len) ?_ (by simp at hl;simp [hl]) (by rw [hl,List.take_length];exact q2) (fun E' N' q=>?_) (fun G' g1 g2=>?_)
      ·have:=run_buildSlice' (P:=P) (w:=w) (ps:=ps.map fun(i,x)=>(i,a.eval x)) hu hi hzv hsz hb2 (by omega) q1'
       simp [execOp,ho,this]
      ·simp only [Option.some.injEq,Prod.mk.injEq]at q
       obtain⟨rfl,rfl⟩:=q
       exact⟨rfl,fun _=>by omega,fun _=>⟨by simp at hl;omega,hlen⟩⟩
      ·exact⟨_,len,0,g1,by rw [g2];rfl,Nat.le_refl _,by omega,by omega,by simp⟩
     ·cases hs
    ·cases hs
   ·cases hs
  ·cases hs
 case makeSlice t l cc=>
  split at hs
  ·rename_i k1 l' k2 c2 E m by' hx hy hsel
   have hx':=hsk.ev l
   have hy':=hsk.ev cc
   rw [hx]at hx'
   rw [hy]at hy'
   simp only [KV,KC]at hx' hy'
   split at hs
   ·rename_i z hz
    split at hs
    ·rename_i hb
     simp only [Bool.and_eq_true,Nat.blt_eq,decide_eq_true_eq]at hb
     have hb1:=Nat.eq_of_beq_eq_true hb.1
     obtain⟨_,hb2,hb3,hb4,hb5,hb6⟩:=hb
     injection hs with hs;injection hs with h1 h2;subst h1 h2
     obtain⟨i,zv,hu,hi,hzv,hsz,hby,hzs⟩:=A8 hsel
     obtain⟨i',zv',hi',hzv',hr⟩:=IG (G:=G) hz
     rw [hi]at hi';injection hi' with hi';subst hi'
     rw [hzv]at hzv';injection hzv' with hzv';subst hzv'
     have hM:maxLen=9223372036854775807:=rfl
     have hrun:=run_make (P:=P) w t E i zv hu hi hzv k1 k2 l' c2 hb3 hb4 (by rw [hby,Int.mul_comm];omega) (by omega)
     have hzr:=Mw hr (by omega) c2.toNat
     have hcl:(Fc z c2.toNat).length =c2.toNat*m:=by rw [EC,hb1]
     have hmade:(madeCells zv.cells (c2.toNat*i.size)).toList =((Array.range (c2.toNat*zv.cells.size)).map (zv.cells[· % zv.cells.size]!)).toList :=by
      simp [madeCells,hzs,hsz]
     have hl:=hzr.len
     refine fin (cur:=madeCells zv.cells (c2.toNat*i.size)) (T:=E) (k:=c2.toNat) (u:= .slice (some ⟨w.heap.size,0,none⟩) l'.toNat c2.toNat) ?_ (by simp only;rw [hcl,size_madeCells,hsz];exact Nat.le_refl _) (by simp only;rw [hmade,hl,List.take_length];exact hzr) (fun E' N' q=>?_) (fun G' g1 g2=>?_)
     ·simp_all [execOp]
     ·simp only [Option.some.injEq,Prod.mk.injEq]at q
      obtain⟨rfl,rfl⟩:=q
      exact⟨rfl,fun _=>by omega,fun _=>⟨by rw [size_madeCells,hsz],by omega⟩⟩
     ·exact⟨_,c2.toNat,0,g1,by rw [g2];rfl,by omega,by omega,by omega,by simp⟩
    ·cases hs
   ·cases hs
  ·cases hs
 case convert src dst x=>
  split at hs
  ·rename_i s hx
   have hx':=hsk.ev x
   rw [hx]at hx'
   simp only [KV,KC]at hx'
   split at hs
   ·rename_i E hs1 hd
    split at hs
    ·rename_i hlen
     injection hs with hs;injection hs with h1 h2;subst h1 h2
     obtain⟨g1,g2⟩:=OT hd
     obtain⟨u,hu⟩: ∃ u,P.underlying src=some u:=⟨_,BM hs1⟩
     have hrun:(execOp a.eval o).run P w= .ok (.value (.slice (some ⟨w.heap.size,0,none⟩) s.length (grownCap w s.length 0 E))) (Lib.bytesWorld w E ⟨s.toArray⟩):=by
      simp_all [Lib.run_convert_string_bytes,execOp,ByteArray.size]
     have hle:G.le (G.set id w.heap.size (some (grownCap w s.length 0 E))):=Kg.set_le hun.1 hun.2
     have hbel:=Lib.bytesWorld_below w E ⟨s.toArray⟩
     have hnew:=Lib.bytesWorld_at_new w E ⟨s.toArray⟩
     have hcl:(Lib.bytesCells w E ⟨s.toArray⟩).toList.take s.length=s.map fun b=>Value.int .u8 b.toNat:=by
      apply List.ext_getElem?
      intro j
      have:=fun hj=>Lib.bytesWorld_cell w E ⟨s.toArray⟩ j hj
      simp only [World.cell?,hnew]at this
      rw [List.getElem?_take,List.getElem?_map]
      split
      ·rename_i hj
       have h3:=this (by simpa [ByteArray.size] using hj)
       simp only [Option.isSome_none,Bool.false_eq_true,if_false]at h3
       simp only [Array.getElem?_toList]
       rw [h3]
       simp [List.getD_eq_getElem?_getD,hj]
      ·rename_i hj
       simp [List.getElem?_eq_none_iff.2 (Nat.le_of_not_lt hj)]
     have hsz:s.length≤(Lib.bytesCells w E ⟨s.toArray⟩).size :=by
      have h3:=congrArg List.length hcl
      simp at h3
      omega
     have hKL: ∀ l:List UInt8,KL (G.set id w.heap.size (some (grownCap w s.length 0 E))) (l.map fun b=>Kc.i .u8 b.toNat) (l.map fun b=>Value.int .u8 b.toNat):=fun l=>by
      induction l with
      | nil=>rfl
      | cons b l ih=>exact⟨_,_,rfl,rfl,ih⟩
     obtain⟨t1,t2⟩:=hk.turn (h':=h.put id (some ⟨none,s.map fun b=> .i .u8 b.toNat,true⟩)) (c':=c') (G':=G.set id w.heap.size (some (grownCap w s.length 0 E))) (w':=Lib.bytesWorld w E ⟨s.toArray⟩) (id:=id) (tb:=w.heap.size) (ob:=w.heap.size) (B7 hbel) (Ce hbel).size (fun b hb _ _=>(Ce hbel).block b hb) (.inl (Nat.le_refl _)) (.inl (Nat.le_refl _)) hle
      (fun i hi=>by rw [Kg.set_blk,Kg.set_cap,if_neg (by omega),if_neg (by omega)];exact hk.fr i (by omega)) fun i d hi=>by
       rw [Kt.get_put]at hi
       by_cases q:i=id
       ·rw [if_pos q]at hi;injection hi with hi;subst hi q
        refine .inl ⟨rfl,⟨w.heap.size,E,_,_,(fun(q:true=false)=>by cases q),by simp [Kg.set_blk],hnew,by simpa using hsz,?_,trivial⟩,by simp [Kg.set_blk]⟩
        simp only [List.length_map]
        rw [hcl]
        exact hKL s
       ·rw [if_neg q]at hi
        exact .inr ⟨q,hi,fun b hb=>by have:=hk.lt hi hb;omega⟩
     refine⟨_,_,_,hrun,t1,t2,?_,fun i hi=>by rw [Kg.set_blk,Kg.set_cap,if_neg hi,if_neg hi];exact⟨rfl,rfl⟩,by simp [Kg.set_blk]⟩
     exact⟨w.heap.size,grownCap w s.length 0 E,0,by simp [Kg.set_blk],by simp [Kg.set_cap],Nat.le_refl _,by have:=grownCap_ge w s.length 0 E;omega,by omega,by simp⟩
    ·cases hs
   ·cases hs
  ·cases hs
end
end
end Go.PL
namespace Go.PL
open Go Go.RowKit
noncomputable section
section
variable {P:Program} {G:Kg}
def Yk (P:Program) (h:Kt Ke) (T:TypeId) (x y:Kv):Option (Kt Ke):=match x,y.cells,Fd P T with
 | .c (.p id off),some cs,some (_,n)=>match h.get id with
   | some ⟨row,es,false⟩=>match Nat.beq cs.length n with
     | true=>match bA off cs es with
       | some r=>some (h.put id (some ⟨row,r,false⟩))
       | none=>none
     | false=>none
   | _=>none
 | _,_,_=>none
theorem bF {F:KF} {c:Nat} {h h':Kt Ke} {w:World} (hk:HK F c h w G) {T:TypeId} {x y:Kv} {u v:Value} (hx:KV G x u) (hy:KV G y v) (hs:Yk P h T x y=some h'):
 ∃ w',(Instr.storeAt T u v).run P w= .ok () w'∧HK F c h' w' G∧C9 h G w h' G w':=by
 unfold Yk at hs
 split at hs
 ·rename_i id off cs ag n hc ht
  split at hs
  ·rename_i row es he
   split at hs
   ·rename_i hb
    split at hs
    rotate_left
    ·cases hs
    rename_i r hr0
    obtain⟨e0,h2⟩:=I4 hr0
    injection hs with hs;subst hs
    have h1:=Nat.eq_of_beq_eq_true hb
    subst e0
    obtain⟨d,i,hu,hd,hi,hsz⟩:=Br ht
    obtain⟨b,hb',rfl⟩:=hx
    have hv:=hy.cells hc
    have hlv:=hv.len
    obtain⟨b2,T',cur,g1,hheap,hfit,hR⟩:=hk.stored he rfl (off:=off) (xs:=cs) hv (by simp only;omega)
    rw [hb']at g1;injection g1 with g1;subst g1
    refine⟨_,?_,hR⟩
    have hst:=run_storeCells_at P b off T' v.cells.toList 0 cur w hheap (by simpa using hfit) hv.one
    simp only [Nat.add_zero]at hst
    simp_all [Instr.storeAt,Instr.sureAddr,storeVar,sizeOf,typeInfo]
   ·cases hs
  ·cases hs
 ·cases hs
def l4 (h:Kt Ke) (N:Nat):Kv→Option (Nat×List Kc)
 | .c (.z (.slice none 0 0))=>some (0,[])
 | .c .e =>some (0,[])
 | .c (.l id M off m _)=>match m with
   | 0=>some (0,[])
   | m+1=>match h.get id with
     | some e=>match Nat.beq M N with
       | true=>match oB ((m+1)*N) (iI (off*N) e.cs)with
         | some r=>some (m+1,r)
         | none=>none
       | false=>none
     | none=>none
 | _=>none
theorem ZB {F:KF} {c:Nat} {h:Kt Ke} {w:World} (hk:HK F c h w G) {N m:Nat} {x:Kv} {cs:List Kc} {u:Value} (hx:KV G x u) (hs:l4 h N x=some (m,cs)):
 (m=0∧cs=[]∧ ∃ ad cap,u= .slice ad 0 cap)∨(0<m∧ ∃ ad cap vs,u= .slice (some ad) m cap∧KL G cs vs∧vs.length=m*N∧ ∀ j v,vs[j]? =some v→w.cell? (ad.add j)=some v):=by
 unfold l4 at hs
 split at hs
 ·simp only [Option.some.injEq,Prod.mk.injEq]at hs
  obtain⟨rfl,rfl⟩:=hs
  obtain⟨rfl,_⟩:=hx
  exact .inl ⟨rfl,rfl,_,_,rfl⟩
 ·simp only [Option.some.injEq,Prod.mk.injEq]at hs
  obtain⟨rfl,rfl⟩:=hs
  obtain⟨p,rfl⟩:=hx
  exact .inl ⟨rfl,rfl,_,_,rfl⟩
 ·rename_i id M off m' rm
  obtain⟨b,cap,o,g1,g2,g3,g4,g5,rfl⟩:=hx
  split at hs
  ·simp only [Option.some.injEq,Prod.mk.injEq]at hs
   obtain⟨rfl,rfl⟩:=hs
   exact .inl ⟨rfl,rfl,_,_,rfl⟩
  ·rename_i k
   split at hs
   ·rename_i e he
    split at hs
    ·rename_i hb
     split at hs
     rotate_left
     ·cases hs
     rename_i r0 hr0
     obtain⟨e0,h2⟩:=Yg hr0
     rw [N6]at e0 h2
     have h2:((e.cs.drop (off*N)).take ((k+1)*N)).length =(k+1)*N:=by
      rw [List.length_take];omega
     have h1:=Nat.eq_of_beq_eq_true hb
     subst h1 e0
     simp only [Option.some.injEq,Prod.mk.injEq]at hs
     obtain⟨rfl,rfl⟩:=hs
     obtain⟨b',T,cur,fz,_,k1,k2,k3,k4,_⟩:=hk.ent id e he
     rw [g1]at k1;injection k1 with k1;subst k1
     have hl:=(k4.drop (off*M)).take ((k+1)*M)
     have hlen:=hl.len
     refine .inr ⟨by omega,⟨b,o,none⟩,_,_,rfl,hl,by rw [←hlen,h2],fun j v hj=>?_⟩
     rw [Addr.add_mid,g5 (by omega)]
     rw [List.getElem?_take]at hj
     split at hj
     ·rw [List.getElem?_drop,List.getElem?_take]at hj
      split at hj
      ·simpa [World.cell?,k2] using hj
      ·cases hj
     ·cases hj
    ·cases hs
   ·cases hs
 ·cases hs
def l5 (P:Program) (h:Kt Ke) (c:Nat) (t:TypeId) (x y:Kv):Option (Kt Ke×Nat×Kv):=match BN P t with
 | some (E,N,by')=>match l4 h N y with
   | some (0,_)=>match x with
     | .c (.z (.slice none 0 0))=>some (h,c,x)
     | .c .e =>some (h,c,x)
     | .c (.l ..)=>some (h,c,x)
     | _=>none
   | some (m+1,cs)=>match x with
     | .c (.z (.slice none 0 0))=>match Nat.blt 0 N&&(Nat.ble ((m+1)*by') 140737488355328&&Nat.ble (m+1) maxLen)with
       | true=>some (h.put c (some ⟨some (E,N),cs,false⟩),c+1, .c (.l c N 0 (m+1) (m+1)))
       | false=>none
     | .c .e =>match Nat.blt 0 N&&(Nat.ble ((m+1)*by') 140737488355328&&Nat.ble (m+1) maxLen)with
       | true=>some (h.put c (some ⟨some (E,N),cs,false⟩),c+1, .c (.l c N 0 (m+1) (m+1)))
       | false=>none
     | .c (.l id M off len rm)=>match h.get id with
       | some ⟨some (E',N'),es,false⟩=>match Nat.beq off 0&&(Nat.beq M N&&(Nat.beq E' E&&(Nat.beq N' N&&(Nat.blt 0 N&&(Nat.ble ((len+(m+1))*by') 140737488355328&&Nat.ble (len+(m+1)) maxLen)))))with
         | true=>match Nat.ble (len+(m+1)) rm&&Nat.ble ((len+(m+1))*N) es.length with
           | true=>match bA (len*N) cs es with
             | some r=>some (h.put id (some ⟨some (E',N'),r,false⟩),c, .c (.l id N 0 (len+(m+1)) rm))
             | none=>none
           | false=>match iJ (len*N) cs es with
             | some r=>some ((h.put id none).put c (some ⟨some (E,N),r,false⟩),c+1, .c (.l c N 0 (len+(m+1)) (len+(m+1))))
             | none=>none
         | false=>none
       | _=>none
     | _=>none
   | none=>none
 | none=>none
theorem HK.grown {F:KF} {c:Nat} {h h1:Kt Ke} {w w':World} (hk:HK F c h w G) {E N k:Nat} {v v':Value} {cs:List Kc} {us:List Value} (hcs:KL G cs us) (hk0:0<k) (hN0:0<N)
 (hnew:w'.ownsRow 0 E N v' k us) (hg:w.grownBy w' v.ownBlock) (hfr:v'.ownBlock=v.ownBlock∨ ∀ b,v'.ownBlock=some b→w.heap.size≤b)
 (hown: ∀ b,v.ownBlock=some b→ ∃ j d,h.get j=some d∧G.blk j=some b) (hh1: ∀ i d,h1.get i=some d→h.get i=some d∧ ∀ b,G.blk i=some b→v.ownBlock ≠ some b):
 ∃ G',HK F (c+1) (h1.put c (some ⟨some (E,N),cs,false⟩)) w' G'∧C9 h G w (h1.put c (some ⟨some (E,N),cs,false⟩)) G' w'∧KV G' (.c (.l c N 0 k k)) v'∧Kp c G G':=by
 obtain⟨hlen,h2⟩:=hnew
 rcases h2 with ⟨_,h0⟩ | ⟨g,cap,cur,rfl,_,q2,q3,q4,q5,q6⟩
 ·omega
 have hun:=hk.fr c (Nat.le_refl c)
 have hle:G.le (G.set c g (some cap)):=Kg.set_le hun.1 hun.2
 have hlc:=hcs.len
 have htb:w.heap.size≤g∨ ∃ j d,h.get j=some d∧G.blk j=some g:=by
  rcases hfr with q | q
  ·exact .inr (hown g (by rw [←q];rfl))
  ·exact .inl (q g rfl)
 obtain⟨ob,hob1,hob2⟩: ∃ ob,(∀ k,k ≠ ob→some k ≠ v.ownBlock)∧(w.heap.size≤ob∨ ∃ j d,h.get j=some d∧G.blk j=some ob)∧(∀ b,v.ownBlock ≠ some b→b=ob→ob=w.heap.size):=by
  cases hv:v.ownBlock with
  | none=>exact⟨w.heap.size,by simp, .inl (Nat.le_refl _),by simp⟩
  | some b=>exact⟨b,fun k hk=>by simpa using hk, .inr (hown b hv),fun b' hb' e=>by simp_all⟩
 have hsz:us.length≤cur.size:=by
  rw [hlen,q5];exact Nat.mul_le_mul_right _ q3
 obtain⟨t1,t2⟩:=hk.turn (h':=h1.put c (some ⟨some (E,N),cs,false⟩)) (c':=c+1) (G':=G.set c g (some cap)) (w':=w') (id:=c) (tb:=g) (ob:=ob) ⟨hg.os,hg.tape,hg.output⟩ hg.size
  (fun b hb _ hne=>hg.block b hb (hob1 b hne)) htb hob2.1 hle (fun i hi=>by rw [Kg.set_blk,Kg.set_cap,if_neg (by omega),if_neg (by omega)];exact hk.fr i (by omega)) fun i d hi=>by
   rw [Kt.get_put]at hi
   by_cases q:i=c
   ·rw [if_pos q]at hi;injection hi with hi;subst hi q
    refine .inl ⟨rfl,⟨g,E,cur,(0,0),fun _=>rfl,by simp [Kg.set_blk],q2,by simp only;omega,?_,rfl,fun q=>absurd q (by omega),fun _=>⟨cap,by simp [Kg.set_cap],q5,q4⟩⟩,by simp [Kg.set_blk]⟩
    simp only
    rw [hlc,hlen,q6]
    exact hcs.mono hle
   ·rw [if_neg q]at hi
    obtain⟨p1,p2⟩:=hh1 i d hi
    refine .inr ⟨q,p1,fun b hb=>⟨fun e=>?_,fun e=>?_⟩⟩
    ·subst e
     rcases hfr with r | r
     ·exact p2 b hb (by rw [←r];rfl)
     ·have:=r b rfl
      have:=hk.lt p1 hb
      omega
    ·have:=hob2.2 b (p2 b hb) e
     have:=hk.lt p1 hb
     omega
 refine⟨_,t1,t2,⟨g,cap,0,by simp [Kg.set_blk],by simp [Kg.set_cap],Nat.le_refl _,by omega,by omega,by simp⟩,fun i hi=>?_⟩
 rw [Kg.set_blk,Kg.set_cap,if_neg (by omega),if_neg (by omega)]
 exact⟨rfl,rfl⟩
theorem iR {F:KF} {c c':Nat} {h h':Kt Ke} {w:World} (hk:HK F c h w G) {t ty:TypeId} {x y r:Kv} {u v:Value} (hx:KV G x u) (hy:KV G y v) (hs:l5 P h c t x y=some (h',c',r)):
 ∃ z w' G',(Builtin.append_ #[t,t] ty #[u,v]).run P w= .ok z w'∧HK F c' h' w' G'∧C9 h G w h' G' w'∧KV G' r z∧Kp c G G'∧c≤c':=by
 unfold l5 at hs
 split at hs
 ·rename_i E N by' hsel
  obtain⟨i,z,hu,hi,hz,hsz,hby,hzs⟩:=A8 hsel
  split at hs
  ·rename_i cs hsrc
   have hq:=ZB hk hy hsrc
   rcases hq with ⟨_,_,ad,cap,rfl⟩ | ⟨h0,_⟩
   ·have main: ∀ bs len cp,u= .slice bs len cp→len≤cp→some (h,c,x)=some (h',c',r)→
     ∃ z w' G',(Builtin.append_ #[t,t] ty #[u, .slice ad 0 cap]).run P w= .ok z w'∧HK F c' h' w' G'∧C9 h G w h' G' w'∧KV G' r z∧Kp c G G'∧c≤c':=fun bs len cp e hc q=>by
     subst e
     simp only [Option.some.injEq,Prod.mk.injEq]at q
     obtain⟨rfl,rfl,rfl⟩:=q
     refine⟨.slice bs len cp,w,G,?_,hk,C9.refl h G w,hx,Kp.refl c G,Nat.le_refl _⟩
     cases bs<;>cases ad<;>simp [Builtin.append_,run_underlying hu,sizeOf,typeInfo,program,Sem.run,hi,Builtin.lenOf,Builtin.firstCells,hc,storeCells,loadCells,loadCellsFrom]
    split at hs
    ·have hx':=hx
     obtain⟨rfl,_⟩:=hx'
     exact main none 0 0 rfl (Nat.le_refl _) hs
    ·have hx':=hx
     obtain⟨p,rfl⟩:=hx'
     exact main p 0 0 rfl (Nat.le_refl _) hs
    ·have hx':=hx
     obtain⟨b,cp,o,g1,g2,g3,g4,g5,rfl⟩:=hx'
     exact main _ _ _ rfl (by omega) hs
    ·cases hs
   ·omega
  ·rename_i m cs hsrc
   have hq:=ZB hk hy hsrc
   rcases hq with ⟨h0,_⟩ | ⟨_,ad,cap,us,rfl,hcs,hlen,hcells⟩
   ·omega
   split at hs
   ·have hx':=hx
    obtain⟨rfl,_⟩:=hx'
    split at hs
    ·rename_i hb
     simp only [Bool.and_eq_true,Nat.ble_eq,Nat.blt_eq]at hb
     obtain⟨b1,b2,b3⟩:=hb
     simp only [Option.some.injEq,Prod.mk.injEq]at hs
     obtain⟨rfl,rfl,rfl⟩:=hs
     obtain⟨z',w',q1,q2,q3,q4⟩:=B4 (P:=P) (w:=w) t ty E i z N by' hu hi hz hsz hby hzs b1 (.slice none 0 0) 0 [] ⟨by simp, .inl ⟨rfl,rfl⟩⟩ ad (m+1) cap us hlen hcells hcs.one (by omega) (by simpa using b2)
     obtain⟨G',k1,k2,k3,k4⟩:=hk.grown (h1:=h) (v:= .slice none 0 0) (k:=m+1) hcs (by omega) (by omega) (by simpa using q2) q3 q4 (by simp [Value.ownBlock]) (fun i d hi=>⟨hi,by simp [Value.ownBlock]⟩)
     exact⟨z',w',G',q1,k1,k2,k3,k4,by omega⟩
    ·cases hs
   ·have hx':=hx
    obtain⟨p,rfl⟩:=hx'
    split at hs
    ·rename_i hb
     simp only [Bool.and_eq_true,Nat.ble_eq,Nat.blt_eq]at hb
     obtain⟨b1,b2,b3⟩:=hb
     simp only [Option.some.injEq,Prod.mk.injEq]at hs
     obtain⟨rfl,rfl,rfl⟩:=hs
     cases p with
     | none=>
       obtain⟨z',w',q1,q2,q3,q4⟩:=B4 (P:=P) (w:=w) t ty E i z N by' hu hi hz hsz hby hzs b1 (.slice none 0 0) 0 [] ⟨by simp, .inl ⟨rfl,rfl⟩⟩ ad (m+1) cap us hlen hcells hcs.one (by omega) (by simpa using b2)
       obtain⟨G',k1,k2,k3,k4⟩:=hk.grown (h1:=h) (v:= .slice none 0 0) (k:=m+1) hcs (by omega) (by omega) (by simpa using q2) q3 q4 (by simp [Value.ownBlock]) (fun i d hi=>⟨hi,by simp [Value.ownBlock]⟩)
       exact⟨z',w',G',q1,k1,k2,k3,k4,by omega⟩
     | some p=>
       obtain⟨z',w',q1,q2,q3,q4⟩:=Dj (P:=P) (w:=w) t ty E i z N by' hu hi hz hsz hby hzs b1 p ad (m+1) cap us hlen hcells (by omega) b3 b2
       obtain⟨G',k1,k2,k3,k4⟩:=hk.grown (h1:=h) (v:= .slice none 0 0) (k:=m+1) hcs (by omega) (by omega) q2 (by simpa [Value.ownBlock] using q3) (.inr q4) (by simp [Value.ownBlock]) (fun i d hi=>⟨hi,by simp [Value.ownBlock]⟩)
       exact⟨z',w',G',q1,k1,k2,k3,k4,by omega⟩
    ·cases hs
   ·rename_i id M off len rm
    have hx':=hx
    obtain⟨b,cp,o,g1,g2,g3,g4,g5,rfl⟩:=hx'
    split at hs
    ·rename_i E' N' es he
     split at hs
     ·rename_i hb
      simp only [Bool.and_eq_true,Nat.ble_eq,Nat.blt_eq]at hb
      obtain⟨b1,b2,b3,b4,b5,b6,b7⟩:=hb
      have b1:=Nat.eq_of_beq_eq_true b1
      have b2:=Nat.eq_of_beq_eq_true b2
      have b3:=Nat.eq_of_beq_eq_true b3
      have b4:=Nat.eq_of_beq_eq_true b4
      subst b1 b2 b3 b4
      have ho:o=0:=by rw [g5 (.inr rfl)];simp
      subst ho
      obtain⟨b',T,cur,fz,f0,k1,k2,k3,k4,k5⟩:=hk.ent id _ he
      have f0:=f0 rfl
      subst f0
      simp only at k3 k4 k5
      obtain⟨k5,_,k6⟩:=k5
      obtain⟨cp',k6,k7,k8⟩:=k6 (by omega)
      rw [g1]at k1;injection k1 with k1;subst k1
      rw [g2]at k6;injection k6 with k6;subst k6
      subst k5
      split at hs
      ·rename_i hr
       simp only [Bool.and_eq_true,Nat.ble_eq]at hr
       split at hs
       rotate_left
       ·cases hs
       rename_i r0 hr0
       obtain⟨e0,_⟩:=I4 hr0
       subst e0
       simp only [Option.some.injEq,Prod.mk.injEq]at hs
       obtain⟨rfl,rfl,rfl⟩:=hs
       have hl2:cs.length=(m+1)*N':=by rw [hcs.len,hlen]
       have hr2:=hr.2
       have hmul:(len+(m+1))*N'=len*N'+(m+1)*N':=Nat.add_mul _ _ _
       obtain⟨b2,T2,cur2,j1,j2,j3,j4,j5⟩:=hk.stored he rfl (off:=len*N') hcs (by simp only;rw [hl2, ←hmul];exact hr2)
       rw [g1]at j1;injection j1 with j1;subst j1
       rw [k2]at j2;injection j2 with j2;injection j2 with j2 j2b;subst j2 j2b
       have hrun:=run_append_room (P:=P) w t ty T i hu hi b len (cp - 0) cur k2 ad (m+1) cap us (by rw [hsz];exact hlen) hcells hcs.one (by omega) (by rw [hsz];exact j3)
       rw [hsz]at hrun
       refine⟨_,_,G,hrun,j4,j5,⟨b,cp,0,g1,g2,by omega,by omega,by simp,rfl⟩,Kp.refl c G,Nat.le_refl _⟩
      ·split at hs
       ·rename_i r0 hr0
        obtain⟨e0,hes⟩:=Un hr0
        subst e0
        simp only [Option.some.injEq,Prod.mk.injEq]at hs
        obtain⟨rfl,rfl,rfl⟩:=hs
        have hpre:=k4.take (len*N')
        have hpre2:(cur.toList.take es.length).take (len*N')=cur.toList.take (len*N'):=by rw [List.take_take];congr 1;omega
        rw [hpre2]at hpre
        have hplen:=hpre.len
        have hpl2:(es.take (len*N')).length =len*N':=by rw [List.length_take];omega
        have hown:w.ownsRow 0 T N' (.slice (some ⟨b,0,none⟩) len (cp - 0)) len (cur.toList.take (len*N')):=⟨by omega, .inr ⟨b,cp,cur,rfl,Nat.zero_le _,k2,by omega,k8,k7,rfl⟩⟩
        obtain⟨z',w',q1,q2,q3,q4⟩:=B4 (P:=P) (w:=w) t ty T i z N' by' hu hi hz hsz hby hzs b5 _ len _ hown ad (m+1) cap us hlen hcells hcs.one b7 b6
        obtain⟨G',t1,t2,t3,t4⟩:=hk.grown (h1:=h.put id none) (k:=len+(m+1)) (hpre.append hcs) (by omega) (by omega) q2 q3 q4 (fun b' hb'=>by
         simp only [Value.ownBlock,Option.some.injEq]at hb'
         subst hb'
         exact⟨id,_,he,g1⟩) (fun i d hi=>by
         rw [Kt.get_put]at hi
         by_cases e:i=id
         ·rw [if_pos e]at hi;cases hi
         ·rw [if_neg e]at hi
          refine⟨hi,fun b' hb' e2=>?_⟩
          simp only [Value.ownBlock,Option.some.injEq]at e2
          subst e2
          exact e (hk.inj i id d _ b hi he hb' g1))
        exact⟨z',w',G',q1,t1,t2,t3,t4,by omega⟩
       ·cases hs
     ·cases hs
    ·cases hs
   ·cases hs
  ·cases hs
 ·cases hs
def l6 (P:Program) (h:Kt Ke) (t:TypeId) (x:Kv):Option (Kt Ke):=match x,BN P t with
 | .c (.z (.slice none 0 0)),some _=>some h
 | .c .e,some _=>some h
 | .c (.l id N off len _),some (E,n,_)=>match len with
   | 0=>some h
   | len+1=>match h.get id,Qg P E with
     | some ⟨row,es,false⟩,some z=>match Nat.beq n N&&(Nat.beq z.length n&&(Nat.blt 0 n&&Nat.ble ((off+(len+1))*N) es.length))with
       | true=>match bA (off*N) (Fc z (len+1)) es with
         | some r=>some (h.put id (some ⟨row,r,false⟩))
         | none=>none
       | false=>none
     | _,_=>none
 | _,_=>none
theorem iS {F:KF} {c:Nat} {h h':Kt Ke} {w:World} (hk:HK F c h w G) {t ty:TypeId} {x:Kv} {u:Value} (hx:KV G x u) (hs:l6 P h t x=some h'):
 ∃ w',(Builtin.clear_ #[t] ty #[u]).run P w= .ok (.tuple #[]) w'∧HK F c h' w' G∧C9 h G w h' G w':=by
 unfold l6 at hs
 have nothing: ∀ p cp,u= .slice p 0 cp→ ∀ E,P.underlying t=some (.slice E)→some h=some h'→ ∃ w',(Builtin.clear_ #[t] ty #[u]).run P w= .ok (.tuple #[]) w'∧HK F c h' w' G∧C9 h G w h' G w':=fun p cp e E hE q=>by
  subst e
  injection q with q;subst q
  refine⟨w,?_,hk,C9.refl h G w⟩
  cases p<;>simp [Builtin.clear_,run_underlying hE]
 split at hs
 ·rename_i y hsel
  obtain⟨rfl,_⟩:=hx
  obtain⟨i,z,hu,_⟩:=A8 (e:=y.1) (n:=y.2.1) (by':=y.2.2) hsel
  exact nothing _ _ rfl _ hu hs
 ·rename_i y hsel
  obtain⟨p,rfl⟩:=hx
  obtain⟨i,z,hu,_⟩:=A8 (e:=y.1) (n:=y.2.1) (by':=y.2.2) hsel
  exact nothing _ _ rfl _ hu hs
 ·rename_i id N off len rm E n by' hsel
  obtain⟨b,cp,o,g1,g2,g3,g4,g5,rfl⟩:=hx
  obtain⟨i,z,hu,hi,hz,hsz,hby,hzs⟩:=A8 hsel
  split at hs
  ·exact nothing _ _ rfl _ hu hs
  ·rename_i len
   split at hs
   ·rename_i row es zs he hzk
    split at hs
    ·rename_i hb
     simp only [Bool.and_eq_true,Nat.ble_eq,Nat.blt_eq]at hb
     obtain⟨b1,b2,b3,b4⟩:=hb
     have b1:=Nat.eq_of_beq_eq_true b1
     have b2:=Nat.eq_of_beq_eq_true b2
     subst b1
     split at hs
     rotate_left
     ·cases hs
     rename_i r0 hr0
     obtain⟨e0,_⟩:=I4 hr0
     subst e0
     injection hs with hs;subst hs
     obtain⟨i',zv',hi',hzv',hr⟩:=IG (G:=G) hzk
     rw [hi]at hi';injection hi' with hi';subst hi'
     rw [hz]at hzv';injection hzv' with hzv';subst hzv'
     have hzr:=Mw hr (by omega) (len+1)
     have hl:=EC zs (len+1)
     have hmul:(off+(len+1))*n=off*n+(len+1)*n:=Nat.add_mul _ _ _
     have hl2:=hzr.len
     obtain⟨b2',T2,cur2,j1,j2,j3,j4,j5⟩:=hk.stored he rfl (off:=off*n) hzr (by simp only;rw [hl,b2];omega)
     rw [g1]at j1;injection j1 with j1;subst j1
     refine⟨_,?_,j4,j5⟩
     have hst:=run_storeCells_at P b (off*n) T2 _ 0 cur2 w j2 (by simpa using j3) hzr.one
     simp only [Nat.add_zero]at hst
     have ho:o=off*n:=g5 (by omega)
     subst ho
     have hzc:(Builtin.zeroCells z.cells (len+1)).toList =((Array.range ((len+1)*z.cells.size)).map (z.cells[· % z.cells.size]!)).toList :=rfl
     have hzero:(zeroValue E).run P w= .ok z w:=run_zeroValue' hi hz w
     clear j4 j5 hl2 hzr j3
     generalize ((Array.range ((len+1)*z.cells.size)).map (z.cells[· % z.cells.size]!)).toList =vs at *
     simp [Builtin.clear_,run_underlying hu,hzero,hzc,hst]
    ·cases hs
   ·cases hs
 ·cases hs
end
end
end Go.PL
namespace Go.PL
open Go Go.RowKit Go.Lib
noncomputable section
def l7 (P:Program) (t:TypeId):Option Nat:=match P.underlying t with
 | some (.slice e)=>match P.info? e with
   | some i=>match i.zero with
     | some (.int .u8 0)=>match Nat.beq i.size 1&&Nat.beq i.bytes 1 with
       | true=>some e
       | false=>none
     | _=>none
   | none=>none
 | _=>none
theorem bG {P:Program} {t e:Nat} (h:l7 P t=some e): ∃ i,P.underlying t=some (.slice e)∧P.info? e=some i∧i.zero=some (.int .u8 0)∧i.size=1∧i.bytes=1:=by
 unfold l7 at h
 split at h
 ·rename_i e' he
  split at h
  ·rename_i i hi
   split at h
   ·rename_i hz
    split at h
    ·rename_i hb
     injection h with h;subst h
     simp only [Bool.and_eq_true]at hb
     exact⟨i,he,hi,hz,Nat.eq_of_beq_eq_true hb.1,Nat.eq_of_beq_eq_true hb.2⟩
    ·cases h
   ·cases h
  ·cases h
 ·cases h
def nG (s:List UInt8):List Kc:=s.map fun b=> .i .u8 b.toNat
theorem Ym {G:Kg}: ∀ s:List UInt8,KL G (nG s) (strCells ⟨s.toArray⟩)
 | []=>by simp [nG,strCells,KL]
 | b::s=>by
   have:=Ym (G:=G) s
   simp only [nG,strCells,List.map_cons]at this ⊢
   exact⟨_,_,rfl,rfl,this⟩
def fe (P:Program) (h:Kt Ke) (c:Nat) (t t':TypeId) (x:Kv) (s:List UInt8):Option (Kt Ke×Nat×Kv):=match l7 P t,Cj P t' with
 | some E,true=>match s.length with
   | 0=>none
   | m+1=>match x with
     | .c (.z (.slice none 0 0))=>match Nat.ble (m+1) 140737488355328 with
       | true=>some (h.put c (some ⟨some (E,1),nG s,false⟩),c+1, .c (.l c 1 0 (m+1) (m+1)))
       | false=>none
     | .c (.l id M off len _)=>match h.get id with
       | some ⟨some (E',N'),es,false⟩=>match Nat.beq off 0&&(Nat.beq M 1&&(Nat.beq E' E&&(Nat.beq N' 1&&Nat.ble (len+(m+1)) 140737488355328)))with
         | true=>match iJ len (nG s) es with
           | some r=>some ((h.put id none).put c (some ⟨some (E,1),r,false⟩),c+1, .c (.l c 1 0 (len+(m+1)) (len+(m+1))))
           | none=>none
         | false=>none
       | _=>none
     | _=>none
 | _,_=>none
section
variable {P:Program} {G:Kg}
theorem ff {F:KF} {c c':Nat} {h h':Kt Ke} {w:World} (hk:HK F c h w G) {t t' ty:TypeId} {x r:Kv} {s:List UInt8} {u:Value} (hx:KV G x u) (hs:fe P h c t t' x s=some (h',c',r)):
 ∃ z w' G',(Builtin.append_ #[t,t'] ty #[u, .string ⟨s.toArray⟩]).run P w= .ok z w'∧HK F c' h' w' G'∧C9 h G w h' G' w'∧KV G' r z∧Kp c G G'∧c≤c':=by
 have hM:maxLen=9223372036854775807:=rfl
 unfold fe at hs
 split at hs
 ·rename_i E hb hst
  obtain⟨i,hu,hi,hz,hsz,hby⟩:=bG hb
  have hu2:=BM hst
  split at hs
  ·cases hs
  ·rename_i m hm
   have hssz:(⟨s.toArray⟩:ByteArray).size =m+1:=by simp [ByteArray.size,hm]
   split at hs
   ·obtain⟨rfl,_⟩:=hx
    split at hs
    ·rename_i hb
     simp only [Nat.ble_eq]at hb
     simp only [Option.some.injEq,Prod.mk.injEq]at hs
     obtain⟨rfl,rfl,rfl⟩:=hs
     obtain⟨z',w',q1,q2,q3,q4⟩:=HW (P:=P) (w:=w) t t' ty E i hu hu2 hi hz hsz hby (.slice none 0 0) 0 [] ⟨by simp, .inl ⟨rfl,rfl⟩⟩ ⟨s.toArray⟩ (by rw [hssz];omega)
     rw [hssz]at q2
     obtain⟨G',k1,k2,k3,k4⟩:=hk.grown (E:=E) (N:=1) (h1:=h) (v:= .slice none 0 0) (k:=m+1) (Ym s) (by omega) (by omega) (by simpa using q2) q3 q4 (by simp [Value.ownBlock]) (fun i d hi=>⟨hi,by simp [Value.ownBlock]⟩)
     exact⟨z',w',G',q1,k1,k2,k3,k4,by omega⟩
    ·cases hs
   ·rename_i id M off len rm
    obtain⟨b,cp,o,g1,g2,g3,g4,g5,rfl⟩:=hx
    split at hs
    ·rename_i E' N' es he
     split at hs
     ·rename_i hb
      simp only [Bool.and_eq_true,Nat.ble_eq]at hb
      obtain⟨b1,b2,b3,b4,b7⟩:=hb
      have b1:=Nat.eq_of_beq_eq_true b1
      have b2:=Nat.eq_of_beq_eq_true b2
      have b3:=Nat.eq_of_beq_eq_true b3
      have b4:=Nat.eq_of_beq_eq_true b4
      subst b1 b2 b3 b4
      have ho:o=0:=by rw [g5 (.inr rfl)]
      subst ho
      obtain⟨b',T,cur,fz,f0,k1,k2,k3,k4,k5⟩:=hk.ent id _ he
      have f0:=f0 rfl
      subst f0
      simp only at k3 k4 k5
      obtain⟨k5,_,k6⟩:=k5
      obtain⟨cp',k6,k7,k8⟩:=k6 (by omega)
      rw [g1]at k1;injection k1 with k1;subst k1
      rw [g2]at k6;injection k6 with k6;subst k6
      subst k5
      split at hs
      ·rename_i r0 hr0
       obtain⟨e0,hes⟩:=Un hr0
       subst e0
       simp only [Option.some.injEq,Prod.mk.injEq]at hs
       obtain⟨rfl,rfl,rfl⟩:=hs
       have hpre:=k4.take len
       have hpre2:(cur.toList.take es.length).take len=cur.toList.take len:=by rw [List.take_take];congr 1;omega
       rw [hpre2]at hpre
       have hplen:=hpre.len
       have hown:w.ownsRow 0 T 1 (.slice (some ⟨b,0,none⟩) len (cp - 0)) len (cur.toList.take len):=⟨by simp;omega, .inr ⟨b,cp,cur,rfl,Nat.zero_le _,k2,by omega,k8,k7,by simp⟩⟩
       obtain⟨z',w',q1,q2,q3,q4⟩:=HW (P:=P) (w:=w) t t' ty T i hu hu2 hi hz hsz hby _ len _ hown ⟨s.toArray⟩ (by rw [hssz];omega)
       rw [hssz]at q2
       obtain⟨G',t1,t2,t3,t4⟩:=hk.grown (E:=T) (N:=1) (h1:=h.put id none) (k:=len+(m+1)) (hpre.append (Ym s)) (by omega) (by omega) q2 q3 q4 (fun b' hb'=>by
        simp only [Value.ownBlock,Option.some.injEq]at hb'
        subst hb'
        exact⟨id,_,he,g1⟩) (fun i d hi=>by
        rw [Kt.get_put]at hi
        by_cases e:i=id
        ·rw [if_pos e]at hi;cases hi
        ·rw [if_neg e]at hi
         refine⟨hi,fun b' hb' e2=>?_⟩
         simp only [Value.ownBlock,Option.some.injEq]at e2
         subst e2
         exact e (hk.inj i id d _ b hi he hb' g1))
       exact⟨z',w',G',q1,t1,t2,t3,t4,by omega⟩
      ·cases hs
     ·cases hs
    ·cases hs
   ·cases hs
 ·cases hs
def fg:Nat→List Kc→Option (List UInt8)
 | 0,_=>some []
 | k+1, .i .u8 (.ofNat b)::r=>match Nat.blt b 256,fg k r with
   | true,some l=>some (UInt8.ofNat b::l)
   | _,_=>none
 | _,_=>none
theorem ZC {G:Kg}: ∀ {k:Nat} {cs:List Kc} {l:List UInt8} {vs:List Value},fg k cs=some l→KL G cs vs→l.length=k∧k≤cs.length∧ ∀ (j:Nat) (x:UInt8),l[j]? =some x→vs[j]? =some (Value.int .u8 x.toNat)
 | 0,cs,l,vs,h,_=>by simp only [fg,Option.some.injEq]at h;subst h;simp
 | k+1,cs,l,vs,h,hr=>by
   unfold fg at h
   split at h
   ·cases ‹k+1=0›
   ·rename_i b r e
    split at h
    ·rename_i l' hb hl
     injection h with h;subst h
     obtain⟨v,r',rfl,h1,h2⟩:=hr
     have ⟨a1,a2,a3⟩:=ZC hl h2
     simp only [KC]at h1
     subst h1
     refine⟨by simp;omega,by simp;omega,fun j x hj=>?_⟩
     cases j with
     | zero=>
       simp at hj;subst hj
       simp only [Nat.blt_eq]at hb
       simp
       omega
     | succ j=>simpa using a3 j x (by simpa using hj)
    ·cases h
   ·cases h
def fh (P:Program) (h:Kt Ke) (pt:TypeId) (x y:Kv):Option (Kt Ke×Kv):=match x,y,P.underlying pt with
 | .c (.p id 0), .c (.i .i64 (.ofNat (k+1))),some (.pointer e)=>match h.get id with
   | some ⟨some (E,1),cs,_⟩=>match Nat.beq E e&&(Nat.beq (P.cellsOf e) 1&&Nat.ble (k+1) 9223372036854775807)with
     | true=>match fg (k+1) cs with
       | some l=>some (h.put id (some ⟨some (E,1),cs,true⟩), .c (.s l))
       | none=>none
     | false=>none
   | _=>none
 | _,_,_=>none
theorem fj {F:KF} {c:Nat} {h h':Kt Ke} {w:World} (hk:HK F c h w G) {pt it ty:TypeId} {x y r:Kv} {u v:Value} (hx:KV G x u) (hy:KV G y v) (hs:fh P h pt x y=some (h',r)):
 ∃ z w',(Builtin.unsafeString_ #[pt,it] ty #[u,v]).run P w= .ok z w'∧HK F c h' w' G∧C9 h G w h' G w'∧KV G r z:=by
 unfold fh at hs
 split at hs
 ·rename_i id k e hpt
  split at hs
  ·rename_i E cs ro he
   split at hs
   ·rename_i hb
    simp only [Bool.and_eq_true,Nat.ble_eq]at hb
    obtain⟨b1,b2,b3⟩:=hb
    have b1:=Nat.eq_of_beq_eq_true b1
    have b2:=Nat.eq_of_beq_eq_true b2
    subst b1
    split at hs
    ·rename_i l hl
     simp only [Option.some.injEq,Prod.mk.injEq]at hs
     obtain⟨rfl,rfl⟩:=hs
     obtain⟨b,hb,rfl⟩:=hx
     simp only [KV,KC]at hy
     subst hy
     obtain⟨b',T,cur,fz,_,k1,k2,k3,k4,k5⟩:=hk.ent id _ he
     rw [hb]at k1;injection k1 with k1;subst k1
     simp only at k3 k4 k5
     obtain⟨k5,k5b,k6⟩:=k5
     subst k5
     obtain⟨a1,a2,a3⟩:=ZC hl k4
     have hrun:=run_unsafeString_row (P:=P) (w:=w) pt it ty T hpt b2 b cur.size (by simp [World.shape?,k2]) l (by intro e;subst e;simp at a1) (by omega) (by omega) (fun j x hj=>by
      have hj2:=(List.getElem?_eq_some_iff.1 hj).1
      have h3:=a3 j x hj
      rw [List.getElem?_take]at h3
      split at h3
      ·rw [Addr.add_mid]
       simp only [World.cell?,k2,Nat.zero_add]
       simpa using h3
      ·cases h3)
     rw [a1]at hrun
     have hfz: ∃ fz',(w.freeze ⟨b,0,none⟩ (k+1)).heap[b]? =some (.cells cur T fz'):=by
      unfold World.freeze
      rw [if_neg (by omega)]
      simp only [Array.getElem?_modify,if_pos,k2,Option.map_some]
      exact⟨_,rfl⟩
     obtain⟨fz',hfz⟩:=hfz
     have hoth: ∀ k',k' ≠ b→(w.freeze ⟨b,0,none⟩ (k+1)).heap[k']? =w.heap[k']? :=fun k' hk'=>by
      unfold World.freeze
      rw [if_neg (by omega)]
      simp only [Array.getElem?_modify]
      rw [if_neg (fun e=>hk' e.symm)]
     have hsz:(w.freeze ⟨b,0,none⟩ (k+1)).heap.size =w.heap.size:=by
      unfold World.freeze;rw [if_neg (by omega)];simp
     have hout:Dc w (w.freeze ⟨b,0,none⟩ (k+1)):=by
      unfold World.freeze;rw [if_neg (by omega)];exact⟨rfl,rfl,rfl⟩
     obtain⟨t1,t2⟩:=hk.turn (h':=h.put id (some ⟨some (T,1),cs,true⟩)) (c':=c) (G':=G) (w':=w.freeze ⟨b,0,none⟩ (k+1)) (id:=id) (tb:=b) (ob:=b) hout (by omega) (fun k' _ hne _=>hoth k' hne) (.inr ⟨id,_,he,hb⟩) (.inr ⟨id,_,he,hb⟩) (Kg.le.refl G) hk.fr fun i d hi=>by
      rw [Kt.get_put]at hi
      by_cases q:i=id
      ·rw [if_pos q]at hi;injection hi with hi;subst hi q
       exact .inl ⟨rfl,⟨b,T,cur,fz',(fun(q:true=false)=>by cases q),hb,hfz,k3,k4,rfl,k5b,k6⟩,hb⟩
      ·rw [if_neg q]at hi
       exact .inr ⟨q,hi,fun k' hk'=>have:k' ≠ b:=fun e2=>q (hk.inj i id d _ k' hi he hk' (by rw [hb,e2]));⟨this,this⟩⟩
     exact⟨_,_,hrun,t1,t2,rfl⟩
    ·cases hs
   ·cases hs
  ·cases hs
 ·cases hs
end
end
end Go.PL
namespace Go.PL
open Go Go.RowKit
noncomputable section
abbrev KR:=Kt Kv×Kt Ke×Nat
abbrev QS:=Code→Nat→Kt Kv→Kt Ke→Nat→Option (Exit×Kt Kv×Kt Ke×Nat)
structure Mx (h:Kt Ke) (G:Kg) (w:World) (h':Kt Ke) (G':Kg) (w':World):Prop where
 le:G.le G'
 size:w.heap.size≤w'.heap.size
 frm: ∀ b,b<w.heap.size→(∀ i e,h.get i=some e→G.blk i ≠ some b)→w'.heap[b]? =w.heap[b]?
 own: ∀ i e b,h'.get i=some e→G'.blk i=some b→w.heap.size≤b∨ ∃ j d,h.get j=some d∧G.blk j=some b
 out:Dc w w'
theorem C9.q {h h':Kt Ke} {G G':Kg} {w w':World} (a:C9 h G w h' G' w'):Mx h G w h' G' w':=⟨a.le,a.size,a.frm,a.own,a.out⟩
theorem Mx.p {h h':Kt Ke} {G G':Kg} {w w':World} (a:Mx h G w h' G' w'):C9 h G w h' (G'.dd G.df) w':=⟨⟨a.le.blk,a.le.cap⟩,a.size,a.frm,a.own,a.out,rfl⟩
theorem Mx.trans {h h1 h2:Kt Ke} {G G1 G2:Kg} {w w1 w2:World} (a:Mx h G w h1 G1 w1) (b:Mx h1 G1 w1 h2 G2 w2):Mx h G w h2 G2 w2 where
 le:=a.le.trans b.le
 size:=Nat.le_trans a.size b.size
 frm:=fun k hk hu=>by
  refine(b.frm k (Nat.lt_of_lt_of_le hk a.size) fun i e hi hb=>?_).trans (a.frm k hk hu)
  rcases a.own i e k hi hb with q | ⟨j,d,q1,q2⟩
  ·omega
  ·exact hu j d q1 q2
 own:=fun i e k hi hb=>by
  rcases b.own i e k hi hb with q | ⟨j,d,q1,q2⟩
  ·exact .inl (Nat.le_trans a.size q)
  ·exact a.own j d k q1 q2
 out:=SG a.out b.out
theorem Mx.poke {h h1:Kt Ke} {G G1:Kg} {w w1:World} (a:Mx h G w h1 G1 w1) {r:Nat} (o:Obj) (hr:w.heap.size≤r):Mx h G w h1 G1 (w1.putObj r o):=
 ⟨a.le,by simpa using a.size,fun b hb hu=>by rw [World.putObj_heap_other (by omega)];exact a.frm b hb hu,a.own,SG a.out ⟨rfl,rfl,rfl⟩⟩
theorem HK.poke {F:KF} {c:Nat} {h:Kt Ke} {w:World} {G:Kg} (hk:HK F c h w G) {r:Nat} (o:Obj) (hu: ∀ i e,h.get i=some e→G.blk i ≠ some r) (hr:F.w0.heap.size≤r):HK F c h (w.putObj r o) G:=
 ⟨fun i e hi=>Up.mono (Kg.le.refl G) (fun b hb=>World.putObj_heap_other (fun q=>hu i e hi (by rw [hb,q]))) (hk.ent i e hi),hk.inj,hk.new,hk.fr,hk.inv,SG hk.out ⟨rfl,rfl,rfl⟩,by simpa using hk.hsize,fun b hb=>by rw [World.putObj_heap_other (by omega)];exact hk.ext b hb⟩
theorem HK.dd {F:KF} {c:Nat} {h:Kt Ke} {w:World} {G:Kg} (hk:HK F c h w G) (ds:List Deferred):HK F c h w (G.dd ds):=
 ⟨fun i e hi=>Up.mono (G.le_dd ds) (fun _ _=>rfl) (hk.ent i e hi),hk.inj,hk.new,hk.fr,hk.inv,hk.out,hk.hsize,hk.ext⟩
def WG (r:Nat):Deferred:={target:= .collected r,args:= #[]}
def qd (h':Kt Ke) (w:World) (G:Kg) (w':World) (G':Kg):Prop:= ∃ rs:List Nat,rs.Nodup∧G'.df=rs.map WG++G.df∧ ∀ r∈rs,w.heap.size≤r∧r<w'.heap.size∧w'.heap[r]? =some (.deferred (some []))∧ ∀ i e,h'.get i=some e→G'.blk i ≠ some r
structure b9 (F:KF) (n:Nat) (h:Kt Ke) (c:Nat) (G:Kg) (w:World) (tm':Kt Kv) (h':Kt Ke) (c':Nat) (a':Act) (w':World) (G':Kg):Prop where
 hk:HK F c' h' w' G'
 sk:SK n tm' a' G'
 st:Mx h G w h' G' w'
 kp:Kp c G G'
 le:c≤c'
 mkd:qd h' w G w' G'
theorem b9.of {F:KF} {n:Nat} {h h':Kt Ke} {c c':Nat} {G G':Kg} {w w':World} {tm':Kt Kv} {a':Act} (hk:HK F c' h' w' G') (sk:SK n tm' a' G') (st:C9 h G w h' G' w') (kp:Kp c G G') (le:c≤c'):b9 F n h c G w tm' h' c' a' w' G':=
 ⟨hk,sk,st.q,kp,le,[],by simp,by simp [st.df],by simp⟩
theorem b9.trans {F:KF} {n m:Nat} {h h1 h2:Kt Ke} {c c1 c2:Nat} {G G1 G2:Kg} {w w1 w2:World} {tm1 tm2:Kt Kv} {a1 a2:Act} (x:b9 F n h c G w tm1 h1 c1 a1 w1 G1) (y:b9 F m h1 c1 G1 w1 tm2 h2 c2 a2 w2 G2):b9 F m h c G w tm2 h2 c2 a2 w2 G2:=
 ⟨y.hk,y.sk,x.st.trans y.st,x.kp.trans y.kp x.le,Nat.le_trans x.le y.le,by
  obtain⟨r1,n1,d1,p1⟩:=x.mkd
  obtain⟨r2,n2,d2,p2⟩:=y.mkd
  refine⟨r2++r1,?_,by rw [d2,d1];simp,fun r hr=>?_⟩
  ·refine List.nodup_append.2 ⟨n2,n1,fun a ha b hb e=>?_⟩
   have:=(p2 a ha).1
   have:=(p1 b hb).2.1
   omega
  ·rcases List.mem_append.1 hr with q | q
   ·obtain⟨a1,a2,a3,a4⟩:=p2 r q
    exact⟨Nat.le_trans x.st.size a1,a2,a3,a4⟩
   ·obtain⟨a1,a2,a3,a4⟩:=p1 r q
    refine⟨a1,Nat.lt_of_lt_of_le a2 y.st.size,(y.st.frm r a2 a4).trans a3,fun i e hi hb=>?_⟩
    rcases y.st.own i e r hi hb with z | ⟨j,d,z1,z2⟩
    ·omega
    ·exact a4 j d z1 z2⟩
def GP (P:Program) (I:World→Prop) (code:Code) (n:Nat) (tm:Kt Kv) (h:Kt Ke) (c:Nat) (e:Exit) (tm':Kt Kv) (h':Kt Ke) (c':Nat):Prop:=
 ∀ (F:KF) (a:Act) (w:World) (G:Kg),F.I=I→HK F c h w G→SK n tm a G→code.wp P (fun e' a' w'=>e'=e∧ ∃ G',b9 F n h c G w tm' h' c' a' w' G') a w
def Lp (P:Program) (I:World→Prop) (rec:QS):Prop:= ∀ code n tm h c e tm' h' c',rec code n tm h c=some (e,tm',h',c')→GP P I code n tm h c e tm' h' c'
def pI (P:Program) (f:FuncId):Option (Func×Code):=match ent P f with
 | true=>match P.funcs[f]? with
   | some fn=>match fn.body with
     | some b=>some (fn,b)
     | none=>none
   | none=>none
 | false=>none
theorem l8 {P:Program} {f:FuncId} {fn:Func} {b:Code} (h:pI P f=some (fn,b)):ent P f=true∧P.funcs[f]? =some fn∧fn.body=some b:=by
 unfold pI at h
 split at h
 ·rename_i he
  split at h
  ·rename_i g hg
   split at h
   ·rename_i b' hb
    simp only [Option.some.injEq,Prod.mk.injEq]at h
    obtain⟨rfl,rfl⟩:=h
    exact⟨he,hg,hb⟩
   ·cases h
  ·cases h
 ·cases h
def SJ:Nat→List Kv→Kt Kv→Kt Kv
 | _,[],t=>t
 | i,v::vs,t=>SJ (i+1) vs (t.put i (some v))
theorem WH: ∀ (vs:List Kv) (i:Nat) (t:Kt Kv) (j:Nat),gt (SJ i vs t) j=if i≤j∧j<i+vs.length then vs.getD (j - i) .u else gt t j
 | [],i,t,j=>by simp [SJ];omega
 | v::vs,i,t,j=>by
   simp only [SJ]
   rw [WH vs (i+1)]
   simp only [List.length_cons]
   by_cases h1:i+1≤j∧j<i+1+vs.length
   ·rw [if_pos h1,if_pos (by omega),show j - i=(j - (i+1))+1 by omega]
    simp
   ·rw [if_neg h1]
    by_cases h2:j=i
    ·subst h2;simp [gt,Kt.get_put]
    ·rw [if_neg (by omega)]
     simp [gt,Kt.get_put,h2]
def WI (P:Program) (tm:Kt Kv) (h:Kt Ke):ResultVar→Option Kv
 | .tmp t=>some (gt tm t)
 | .cell t T=>match Fd P T,gt tm t with
   | some (ag,n), .c (.p id off)=>match h.get id with
     | some e=>Ln ag off n e.cs
     | none=>none
   | _,_=>none
def Ny (P:Program) (tm:Kt Kv) (h:Kt Ke):List ResultVar→Option (List Kv)
 | []=>some []
 | x::xs=>match WI P tm h x,Ny P tm h xs with
   | some v,some vs=>some (v::vs)
   | _,_=>none
def bH (P:Program) (tm:Kt Kv) (h:Kt Ke) (xs:List ResultVar):Option Kv:=match xs with
 | [x]=>WI P tm h x
 | xs=>match Ny P tm h xs with
   | some vs=>some (.t vs)
   | none=>none
section
variable {P:Program} {G:Kg} {F:KF} {c n:Nat} {h:Kt Ke} {w:World} {tm:Kt Kv} {a:Act}
theorem WJ (hk:HK F c h w G) (hsk:SK n tm a G) {x:ResultVar} {v:Kv} (hs:WI P tm h x=some v): ∃ u,(DU a.tmps x).run P w= .ok u w∧KV G v u:=by
 cases x with
 | tmp t=>simp only [WI]at hs;injection hs with hs;subst hs;exact⟨_,rfl,hsk.sl t⟩
 | cell t T=>
   simp only [WI]at hs
   split at hs
   ·rename_i ag m id off ht hp
    have hx:=hsk.sl t
    rw [hp]at hx
    obtain⟨b,hb,hv⟩:=hx
    split at hs
    ·rename_i d hd
     obtain⟨b',T',cur,fz,_,h1,h2,h3,h4,_⟩:=hk.ent id d hd
     rw [hb]at h1;injection h1 with h1;subst h1
     obtain⟨u,q1,q2⟩:=GO (P:=P) ht h2 h4 h3 hs
     refine⟨u,?_,q1⟩
     simp only [Instr.loadAt,Instr.sureAddr]at q2
     simp_all [DU,asAddr]
    ·cases hs
   ·cases hs
theorem WK (hk:HK F c h w G) (hsk:SK n tm a G): ∀ {xs:List ResultVar} {vs:List Kv},Ny P tm h xs=some vs→ ∃ us,(xs.mapM (DU a.tmps)).run P w= .ok us w∧Hr G vs us
 | [],vs,hs=>by simp only [Ny]at hs;injection hs with hs;subst hs;exact⟨[],by simp,rfl⟩
 | x::xs,vs,hs=>by
   simp only [Ny]at hs
   split at hs
   ·rename_i v vs' h1 h2
    injection hs with hs;subst hs
    obtain⟨u,q1,q2⟩:=WJ hk hsk h1
    obtain⟨us,k1,k2⟩:=WK hk hsk h2
    exact⟨u::us,by simp_all,⟨u,us,rfl,q2,k2⟩⟩
   ·cases hs
theorem SM: ∀ {xs:List ResultVar} {vs:List Kv},Ny P tm h xs=some vs→vs.length=xs.length
 | [],vs,hs=>by simp only [Ny]at hs;injection hs with hs;subst hs;rfl
 | x::xs,vs,hs=>by
   simp only [Ny]at hs
   split at hs
   ·rename_i v vs' h1 h2
    injection hs with hs;subst hs
    simp [SM h2]
   ·cases hs
theorem iT (hk:HK F c h w G) (hsk:SK n tm a G) {fn:Func} {v:Kv} (hs:bH P tm h fn.results.toList=some v): ∃ u,(results fn a.tmps).run P w= .ok u w∧KV G v u:=by
 unfold bH at hs
 split at hs
 ·rename_i x hx
  obtain⟨u,q1,q2⟩:=WJ hk hsk hs
  exact⟨u,by simp_all [Cr (P:=P) (w:=w) (fn:=fn) (tmps:=a.tmps) (vs:=[u])],q2⟩
 ·rename_i xs hne
  split at hs
  ·rename_i vs hv
   injection hs with hs;subst hs
   obtain⟨us,q1,q2⟩:=WK hk hsk hv
   have hl:=q2.len
   rw [SM hv]at hl
   refine⟨.tuple us.toArray,?_,⟨us.toArray,rfl,by simpa using q2⟩⟩
   rw [Cr (P:=P) (w:=w) (fn:=fn) (tmps:=a.tmps) q1]
   match hus:us with
   | []=>rfl
   | [v]=>
     exfalso
     match hr:fn.results.toList,hl with
     | [x],_=>exact hne x hr
   | v::u::vs=>rfl
  ·cases hs
end
abbrev oE:=Kt Ke→Nat→List Kv→Option (Kv×Kt Ke×Nat)
abbrev KX:=List (FuncId×oE)
def WL:Kv→Option V
 | .c (.i k n)=>some (.c (.int k n))
 | .c (.b x)=>some (.c (.bool x))
 | .c (.s s)=>some (.c (.str s))
 | _=>none
def Ql:List Kv→Option (List V)
 | []=>some []
 | v::vs=>match WL v,Ql vs with
   | some x,some xs=>some (x::xs)
   | _,_=>none
def kx:KX→FuncId→Option oE
 | [],_=>none
 | (g,v)::r,f=>match Nat.beq g f with
   | true=>some v
   | false=>kx r f
theorem Yn: ∀ {X:KX} {f:FuncId} {v:oE},kx X f=some v→(f,v)∈X
 | [],_,_,h=>by cases h
 | (g,u)::r,f,v,h=>by
   simp only [kx]at h
   split at h
   ·rename_i hb
    have:=Nat.eq_of_beq_eq_true hb
    injection h with h;subst h this;simp
   ·exact List.mem_cons_of_mem _ (Yn h)
theorem WM {G:Kg} {w:World} {H:Au} {v:Kv} {x:V} {u:Value} (h:WL v=some x):KV G v u↔Ab w H x u:=by
 unfold WL at h
 split at h<;>first
  | (injection h with h;subst h;simp only [KV,KC,Ab,Ac])
  | cases h
def fk (P:Program) (X:KX) (rec:QS) (h:Kt Ke) (c:Nat) (f:FuncId) (args:List Kv):Option (Kv×Kt Ke×Nat):=match kx X f with
 | some g=>g h c args
 | none=>match pI P f with
   | some (fn,b)=>match Nat.ble args.length fn.ntmps with
     | true=>match rec b fn.ntmps (SJ 0 args .lf) h c with
       | some (e,tm',h',c')=>match e with
         | .normal =>match bH P tm' h' fn.results.toList with
           | some v=>some (v,h',c')
           | none=>none
         | .ret =>match bH P tm' h' fn.results.toList with
           | some v=>some (v,h',c')
           | none=>none
         | _=>none
       | none=>none
     | false=>none
   | none=>none
def Lq (F:KF) (h:Kt Ke) (c:Nat) (G:Kg) (w:World) (v:Kv) (h':Kt Ke) (c':Nat) (u:Value) (w':World):Prop:=
 ∃ G',HK F c' h' w' G'∧C9 h G w h' G' w'∧KV G' v u∧Kp c G G'∧c≤c'
def nH (P:Program) (I:World→Prop) (f:FuncId) (g:oE):Prop:=ent P f=true∧ ∀ (F:KF) (h:Kt Ke) (c:Nat) (w:World) (G:Kg) (args:List Kv) (us:Array Value) (v:Kv) (h':Kt Ke) (c':Nat),F.I=I→HK F c h w G→Hr G args us.toList→g h c args=some (v,h',c')→
 Calls P f us w (fun e w'=> ∃ u,e= .returned u∧Lq F h c G w v h' c' u w')
def QT (P:Program) (I:World→Prop) (X:KX):Prop:= ∀ f g,(f,g)∈X→nH P I f g
section
variable {P:Program} {G:Kg} {F:KF} {c c' n:Nat} {h h':Kt Ke} {w:World} {X:KX} {rec:QS}
theorem bI (hk:HK F c h w G) {w':World} (hb:Below w.heap.size w w'):HK F c h w' G∧C9 h G w h G w':=by
 have ho:=B7 hb
 have hs:=Ce hb
 have:=hk.turn (h':=h) (c':=c) (G':=G) (w':=w') (id:=c) (tb:=w.heap.size) (ob:=w.heap.size) ho hs.size (fun b hb _ _=>hs.block b hb) (.inl (Nat.le_refl _)) (.inl (Nat.le_refl _)) (Kg.le.refl G) hk.fr fun i e hi=>by
  by_cases q:i=c
  ·subst q
   obtain⟨b,_,_,_,_,h1,_⟩:=hk.ent i e hi
   have:=(hk.fr i (Nat.le_refl _)).1
   rw [this]at h1;cases h1
  ·exact .inr ⟨q,hi,fun b hb=>by have:=hk.lt hi hb;omega⟩
 exact this
theorem fo {fn:Func} {tm:Kt Kv} {v:Kv} {tmps:Array Value} (hv:bH P tm h' fn.results.toList=some v) (hc:c≤c') (hw0:F.w0.heap.size≤w.heap.size): ∀ (rs:List Nat) (w':World) (G':Kg),HK F c' h' w' G'→(∀ i,KV G' (gt tm i) (tmps.getD i Go.undef))→rs.Nodup→
 (∀ r∈rs,w.heap.size≤r∧r<w'.heap.size∧w'.heap[r]? =some (.deferred (some []))∧ ∀ i e,h'.get i=some e→G'.blk i ≠ some r)→Mx h G w h' G' w'→Kp c G G'→LeavesInM Fence.wide 0 P fn tmps (fun e w'=> ∃ u,e= .returned u∧Lq F h c G w v h' c' u w') (rs.map WG) .returning w'
 | [],w',G',hk,hs,_,_,hst,hkp=>by
   obtain⟨u,q1,q2⟩:=iT (a:=⟨tmps,G'.df⟩) hk ⟨rfl,rfl,hs⟩ hv
   exact⟨u,q1,u,rfl,G'.dd G.df,hk.dd _,hst.p,q2.mono (G'.le_dd _),hkp,hc⟩
 | r::rs,w',G',hk,hs,hn,hr,hst,hkp=>by
   obtain⟨a1,a2,a3,a4⟩:=hr r (by simp)
   refine⟨by simp, .inl ⟨r,_,rfl,run_takeDeferred a3,?_⟩⟩
   have hn2:=List.nodup_cons.1 hn
   refine fo hv hc hw0 rs _ G' (hk.poke _ a4 (Nat.le_trans hw0 a1)) hs hn2.2 (fun r' hr'=>?_) (hst.poke _ a1) hkp
   obtain⟨b1,b2,b3,b4⟩:=hr r' (by simp [hr'])
   exact⟨b1,by simpa using b2,by
    have hne:r' ≠ r:=fun e=>by subst e;exact hn2.1 hr'
    rw [World.putObj_heap_other hne];exact b3,b4⟩
theorem Us (hX:QT P F.I X) (hrec:Lp P F.I rec) (hk:HK F c h w G) {f:FuncId} {args:List Kv} {us:Array Value} {v:Kv} (ha:Hr G args us.toList) (hs:fk P X rec h c f args=some (v,h',c')):
 ent P f=true∧Calls P f us w (fun e w'=> ∃ u,e= .returned u∧Lq F h c G w v h' c' u w'):=by
 unfold fk at hs
 split at hs
 ·rename_i g hg
  exact⟨(hX f g (Yn hg)).1,(hX f g (Yn hg)).2 F h c w G args us v h' c' rfl hk ha hs⟩
 ·split at hs
  ·rename_i fn b hf
   obtain⟨f1,f2,f3⟩:=l8 hf
   refine⟨f1,?_⟩
   split at hs
   ·rename_i hl
    have hl:args.length≤fn.ntmps:=by simpa using hl
    split at hs
    ·rename_i e tm' h2 c2 hr
     refine callsIn_wide.1 (callsIn_of_wp_marks (F:=Fence.wide) (n:=0) f2 f3 trivial (wpIn_wide.2 ?_))
     have hal:=ha.len
     have hsk:SK fn.ntmps (SJ 0 args .lf) {tmps:=us++Array.replicate (fn.ntmps - us.size) Go.undef,defers:=[]} (G.dd []):=by
      refine⟨rfl,by simp at hal ⊢;omega,fun i=>?_⟩
      rw [WH]
      by_cases q:0≤i∧i<0+args.length
      ·rw [if_pos q]
       simp only [Nat.sub_zero]
       have hi:i<args.length:=by omega
       obtain⟨u,q1,q2⟩:=ha.get (i:=i) (c:=args[i]) (by simp [hi])
       have q3:us[i]? =some u:=by simpa using q1
       rw [List.getD_eq_getElem?_getD,List.getElem?_eq_getElem hi]
       simp only [Option.getD_some,Array.getD_eq_getD_getElem?,Array.getElem?_append]
       have:i<us.size:=by simp at hal;omega
       rw [if_pos this,q3]
       exact q2.mono (G.le_dd [])
      ·rw [if_neg q]
       simp [gt,Kt.get_lf,KV]
     refine Code.wp_mono (fun e' a' w' ⟨q,G',hT⟩=>?_) (hrec b fn.ntmps _ h c e tm' h2 c2 hr F _ w (G.dd []) rfl (hk.dd []) hsk)
     subst q
     have fin:(match bH P tm' h2 fn.results.toList with | some v=>some (v,h2,c2) | none=>none)=some (v,h',c')→
      LeavesInM Fence.wide 0 P fn a'.tmps (fun e w'=> ∃ u,e= .returned u∧Lq F h c G w v h' c' u w') a'.defers .returning w':=fun q=>by
      split at q
      ·rename_i v' hv
       simp only [Option.some.injEq,Prod.mk.injEq]at q
       obtain⟨rfl,rfl,rfl⟩:=q
       obtain⟨rs,m1,m2,m3⟩:=hT.mkd
       rw [hT.sk.dfr,m2]
       simp only [Kg.dd,List.append_nil]
       have hst:Mx h G w h2 G' w':=⟨⟨hT.st.le.blk,hT.st.le.cap⟩,hT.st.size,hT.st.frm,hT.st.own,hT.st.out⟩
       exact fo hv hT.le hk.hsize rs w' G' hT.hk hT.sk.sl m1 m3 hst hT.kp
      ·cases q
     cases e'<;>simp only at hs<;>first
      | exact fin hs
      | cases hs
    ·cases hs
   ·cases hs
  ·cases hs
end
end
end Go.PL
namespace Go.PL
open Go Go.RowKit
noncomputable section
def Nz (P:Program) (tm:Kt Kv) (h:Kt Ke) (c:Nat) (op:Op):Option (Kv×Kt Ke×Nat):=match mI P tm op c with
 | some (e,v)=>some (v,h.put c (some e),c+1)
 | none=>none
def Qm (h:Kt Ke) (c:Nat):Option Kv→Option (Kv×Kt Ke×Nat)
 | some v=>some (v,h,c)
 | none=>none
def SN (P:Program) (X:KX) (gs:List (Nat×List Kc)) (rec:QS) (tm:Kt Kv) (h:Kt Ke) (c:Nat) (op:Op):Option (Kv×Kt Ke×Nat):=match op with
 | .load t x=>Qm h c (lZ P gs h tm (.load t x))
 | .alloc T=>Nz P tm h c (.alloc T)
 | .box T x=>Nz P tm h c (.box T x)
 | .buildSlice t l ps=>Nz P tm h c (.buildSlice t l ps)
 | .makeSlice t l k=>Nz P tm h c (.makeSlice t l k)
 | .convert s d x=>match QR P tm (.convert s d x)with
   | some v=>some (v,h,c)
   | none=>Nz P tm h c (.convert s d x)
 | .store T x y=>match Yk P h T (E5 tm x) (E5 tm y)with
   | some h'=>some (.sk,h',c)
   | none=>none
 | .call cl=>match cl.callee with
   | .value x=>match E5 tm x with
     | .c (.f f fi ca)=>fk P X rec h c f (fi.map Kv.c++(cl.args.toList.map (E5 tm)++ca.map Kv.c))
     | _=>none
   | .builtin .append =>match cl.args.toList,cl.argTypes.toList with
     | [x,y],[t,t']=>match Nat.beq t t' with
       | true=>match l5 P h c t (E5 tm x) (E5 tm y)with
         | some (h',c',v)=>some (v,h',c')
         | none=>none
       | false=>match E5 tm y with
         | .c (.s s)=>match fe P h c t t' (E5 tm x) s with
           | some (h',c',v)=>some (v,h',c')
           | none=>none
         | _=>none
     | _,_=>none
   | .builtin .unsafeString =>match cl.args.toList,cl.argTypes.toList with
     | [x,y],[t,_]=>match fh P h t (E5 tm x) (E5 tm y)with
       | some (h',v)=>some (v,h',c)
       | none=>none
     | _,_=>none
   | .builtin .clear =>match cl.args.toList,cl.argTypes.toList with
     | [x],[t]=>match l6 P h t (E5 tm x)with
       | some h'=>some (.t [],h',c)
       | none=>none
     | _,_=>none
   | .builtin _=>Qm h c (QR P tm (.call cl))
   | _=>none
 | op=>Qm h c (QR P tm op)
section
variable {P:Program} {G:Kg} {F:KF} {c c' n:Nat} {h h':Kt Ke} {w:World} {X:KX} {gs:List (Nat×List Kc)} {rec:QS} {tm:Kt Kv} {a:Act}
theorem fp (hk:HK F c h w G) (hsk:SK n tm a G) {o:Oper} {v:Kv} {Q:Exit→Act→World→Prop} (hs:Qm h c (QR P tm o.op)=some (v,h',c')):o.wp P a w (fun a' w'=> ∃ u,a'=a.put o.dst u∧Lq F h c G w v h' c' u w') Q:=by
 unfold Qm at hs
 split at hs
 ·rename_i v' hv
  simp only [Option.some.injEq,Prod.mk.injEq]at hs
  obtain⟨rfl,rfl,rfl⟩:=hs
  obtain⟨u,q1,q2⟩:=Zz hsk hv
  exact Ap (q2 w) ⟨u,rfl,G,hk,C9.refl h G w,q1,Kp.refl c G,Nat.le_refl _⟩
 ·cases hs
theorem fq (hk:HK F c h w G) (hsk:SK n tm a G) {o:Oper} {v:Kv} {Q:Exit→Act→World→Prop} (hs:Nz P tm h c o.op=some (v,h',c')):o.wp P a w (fun a' w'=> ∃ u,a'=a.put o.dst u∧Lq F h c G w v h' c' u w') Q:=by
 unfold Nz at hs
 split at hs
 ·rename_i e v' hv
  simp only [Option.some.injEq,Prod.mk.injEq]at hs
  obtain⟨rfl,rfl,rfl⟩:=hs
  have hun:=hk.fr c (Nat.le_refl c)
  have hh:h.get c=none:=by
   cases hg:h.get c with
   | none=>rfl
   | some d=>
     obtain⟨b,_,_,_,_,h1,_⟩:=hk.ent c d hg
     rw [hun.1]at h1;cases h1
  obtain⟨u,w',G',q1,q2,q3,q4,q5,_⟩:=fc hk hsk (c':=c+1) (Nat.lt_succ_self c) (Nat.le_succ c) hun hh hv
  exact Ap q1 ⟨u,rfl,G',q2,q3,q4,fun i hi=>q5 i (by omega),by omega⟩
 ·cases hs
theorem Yo (hsk:SK n tm a G) {cl:Call} {x:Operand} {f:FuncId} {fi ca:List Kc} (hx:E5 tm x= .c (.f f fi ca)):
 ∃ xs ys:Array Value,a.eval x= .func (.func f) xs ys∧Hr G (fi.map Kv.c++(cl.args.toList.map (E5 tm)++ca.map Kv.c)) (xs++cl.args.map a.eval++ys).toList :=by
 have h1:=hsk.ev x
 rw [hx]at h1
 obtain⟨xs,ys,e,k1,k2⟩:=h1
 refine⟨xs,ys,e,?_⟩
 have:=(Hr.ofL k1).append ((hsk.evs cl.args.toList).append (Hr.ofL k2))
 simpa using this
theorem WN (hX:QT P F.I X) (hgt:Ur F.I gs) (hrec:Lp P F.I rec) (hk:HK F c h w G) (hsk:SK n tm a G) {o:Oper} {v:Kv} {Q:Exit→Act→World→Prop} (hs:SN P X gs rec tm h c o.op=some (v,h',c')):
 o.wp P a w (fun a' w'=> ∃ u,a'=a.put o.dst u∧Lq F h c G w v h' c' u w') Q:=by
 have base:Qm h c (QR P tm o.op)=some (v,h',c')→o.wp P a w (fun a' w'=> ∃ u,a'=a.put o.dst u∧Lq F h c G w v h' c' u w') Q:=fp hk hsk
 have mk:Nz P tm h c o.op=some (v,h',c')→o.wp P a w (fun a' w'=> ∃ u,a'=a.put o.dst u∧Lq F h c G w v h' c' u w') Q:=fq hk hsk
 unfold SN at hs
 split at hs
 ·rename_i t x ho
  rw [←ho]at hs
  unfold Qm at hs
  split at hs
  ·rename_i v' hv
   simp only [Option.some.injEq,Prod.mk.injEq]at hs
   obtain⟨rfl,rfl,rfl⟩:=hs
   obtain⟨u,q1,q2⟩:=fb hgt hk hsk hv
   exact Ap q2 ⟨u,rfl,G,hk,C9.refl h G w,q1,Kp.refl c G,Nat.le_refl _⟩
  ·cases hs
 ·rename_i ho;rw [←ho]at hs;exact mk hs
 ·rename_i ho;rw [←ho]at hs;exact mk hs
 ·rename_i ho;rw [←ho]at hs;exact mk hs
 ·rename_i ho;rw [←ho]at hs;exact mk hs
 ·rename_i s d x ho
  rw [←ho]at hs
  split at hs
  ·rename_i v' hv
   refine base ?_
   rw [hv];exact hs
  ·exact mk hs
 ·rename_i T x y ho
  split at hs
  ·rename_i h2 hst
   simp only [Option.some.injEq,Prod.mk.injEq]at hs
   obtain⟨rfl,rfl,rfl⟩:=hs
   obtain⟨w',q1,q2,q3⟩:=bF (P:=P) hk (hsk.ev x) (hsk.ev y) hst
   have hrun:(execOp a.eval o).run P w= .ok .skip w':=by simp [execOp,ho,q1]
   unfold Oper.wp
   rw [hrun]
   exact⟨_,rfl,G,q2,q3,rfl,Kp.refl c G,Nat.le_refl _⟩
  ·cases hs
 ·rename_i cl ho
  split at hs
  ·rename_i x hcal
   split at hs
   ·rename_i f fi ca hx
    obtain⟨xs,ys,e1,e2⟩:=Yo (cl:=cl) hsk hx
    obtain⟨f1,f2⟩:=Us hX hrec hk e2 hs
    have hrun:(execOp a.eval o).run P w= .ok (.enter f (xs++cl.args.map a.eval++ys)) w:=by
     grind [execOp,resolve,Deferred.ofValue,invoke,run_callFunc']
    unfold Oper.wp Oper.upon
    rw [hrun]
    refine f2.mono fun e w' ⟨u,he,hb⟩=>?_
    subst he
    exact⟨u,rfl,hb⟩
   ·cases hs
  ·rename_i hcal
   split at hs
   ·rename_i x y t t' hxs hts
    split at hs
    ·rename_i ht
     have ht:=Nat.eq_of_beq_eq_true ht
     subst ht
     split at hs
     ·rename_i h2 c2 v2 ha
      simp only [Option.some.injEq,Prod.mk.injEq]at hs
      obtain⟨rfl,rfl,rfl⟩:=hs
      have ea:cl.args= #[x,y]:=by grind
      have et:cl.argTypes= #[t,t]:=by grind
      obtain⟨z,w',G',q1,q2,q3,q4,q5,q6⟩:=iR (P:=P) (ty:=o.type) hk (hsk.ev x) (hsk.ev y) ha
      exact Ap (by simp_all [execOp,resolve,invoke,builtin]) ⟨z,rfl,G',q2,q3,q4,q5,q6⟩
     ·cases hs
    ·split at hs
     ·rename_i s hy
      split at hs
      ·rename_i h2 c2 v2 ha
       simp only [Option.some.injEq,Prod.mk.injEq]at hs
       obtain⟨rfl,rfl,rfl⟩:=hs
       have ea:cl.args= #[x,y]:=by grind
       have et:cl.argTypes= #[t,t']:=by grind
       have hy':=hsk.ev y
       rw [hy]at hy'
       simp only [KV,KC]at hy'
       obtain⟨z,w',G',q1,q2,q3,q4,q5,q6⟩:=ff (P:=P) (ty:=o.type) hk (hsk.ev x) ha
       rw [←hy']at q1
       exact Ap (by simp_all [execOp,resolve,invoke,builtin]) ⟨z,rfl,G',q2,q3,q4,q5,q6⟩
      ·cases hs
     ·cases hs
   ·cases hs
  ·rename_i hcal
   split at hs
   ·rename_i x y t t' hxs hts
    split at hs
    ·rename_i h2 v2 ha
     simp only [Option.some.injEq,Prod.mk.injEq]at hs
     obtain⟨rfl,rfl,rfl⟩:=hs
     have ea:cl.args= #[x,y]:=by grind
     have et:cl.argTypes= #[t,t']:=by grind
     obtain⟨z,w',q1,q2,q3,q4⟩:=fj (P:=P) (it:=t') (ty:=o.type) hk (hsk.ev x) (hsk.ev y) ha
     exact Ap (by simp_all [execOp,resolve,invoke,builtin]) ⟨z,rfl,G,q2,q3,q4,Kp.refl c G,Nat.le_refl _⟩
    ·cases hs
   ·cases hs
  ·rename_i hcal
   split at hs
   ·rename_i x t hxs hts
    split at hs
    ·rename_i h2 ha
     simp only [Option.some.injEq,Prod.mk.injEq]at hs
     obtain⟨rfl,rfl,rfl⟩:=hs
     have ea:cl.args= #[x]:=by grind
     have et:cl.argTypes= #[t]:=by grind
     obtain⟨w',q1,q2,q3⟩:=iS (P:=P) (ty:=o.type) hk (hsk.ev x) ha
     exact Ap (by simp_all [execOp,resolve,invoke,builtin]) ⟨_,rfl,G,q2,q3,⟨#[],rfl,rfl⟩,Kp.refl c G,Nat.le_refl _⟩
    ·cases hs
   ·cases hs
  ·rename_i ho'
   rw [←ho]at hs
   exact base hs
  ·cases hs
 ·exact base hs
def mJ (tm:Kt Kv) (ops:Array Oper) (o:Oper):Option Bool:=match o.guard with
 | none=>some true
 | some (j,want)=>match ops[j]? with
   | some p=>match p.dst with
     | some t=>match gt tm t with
       | .c (.b q)=>some (q==want)
       | .sk =>some false
       | _=>none
     | none=>none
   | none=>none
theorem Yp {ops:Array Oper} {o:Oper} {g:Bool} (hsk:SK n tm a G) (hs:mJ tm ops o=some g):Region.wanted o (yielded ops a.tmps)=g:=by
 unfold mJ at hs
 split at hs
 ·rename_i hg
  injection hs with hs;subst hs
  exact CO hg _
 ·rename_i j want hg
  split at hs
  ·rename_i p hp
   split at hs
   ·rename_i t ht
    have hv:=hsk.sl t
    split at hs
    ·rename_i q hq
     injection hs with hs;subst hs
     rw [hq]at hv
     simp only [KV,KC]at hv
     have:a.tmps[t]? =some (.bool q):=by
      rw [Array.getD_eq_getD_getElem?]at hv
      cases hx:a.tmps[t]? with
      | none=>rw [hx]at hv;simp [Go.undef]at hv
      | some y=>rw [hx]at hv;simp at hv;rw [hv]
     simp [Region.wanted,hg,yielded,hp,ht,this]
    ·rename_i hq
     injection hs with hs;subst hs
     rw [hq]at hv
     simp only [KV]at hv
     have: ∀ q,a.tmps[t]? ≠ some (.bool q):=fun q hx=>by
      rw [Array.getD_eq_getD_getElem?,hx]at hv
      simp [Go.undef]at hv
     have h2:yielded ops a.tmps j=none:=by
      unfold yielded
      simp only [hp,ht,Option.bind_some]
     simp [Region.wanted,hg,h2]
    ·cases hs
   ·cases hs
  ·cases hs
def bJ (P:Program) (X:KX) (gs:List (Nat×List Kc)) (rec:QS) (n:Nat) (ops:Array Oper):List Oper→Kt Kv→Kt Ke→Nat→Option KR
 | [],tm,h,c=>some (tm,h,c)
 | o::rest,tm,h,c=>match mJ tm ops o with
   | some true=>match SN P X gs rec tm h c o.op with
     | some (v,h',c')=>match iM n tm o.dst v with
       | some tm'=>bJ P X gs rec n ops rest tm' h' c'
       | none=>none
     | none=>none
   | some false=>match iM n tm o.dst .sk with
     | some tm'=>bJ P X gs rec n ops rest tm' h c
     | none=>none
   | none=>none
theorem Ut (hX:QT P F.I X) (hgt:Ur F.I gs) (hrec:Lp P F.I rec) {ops:Array Oper} {Q:Exit→Act→World→Prop} {tm1:Kt Kv} {h1:Kt Ke} {c1:Nat}:
 ∀ (l:List Oper) (tm:Kt Kv) (h:Kt Ke) (c:Nat) (a:Act) (w:World) (G:Kg),HK F c h w G→SK n tm a G→bJ P X gs rec n ops l tm h c=some (tm1,h1,c1)→(∀ a' w' G',b9 F n h c G w tm1 h1 c1 a' w' G'→Q .normal a' w')→wpList P ops Q l a w
 | [],tm,h,c,a,w,G,hk,hsk,hs,hQ=>by
   simp only [bJ,Option.some.injEq,Prod.mk.injEq]at hs
   obtain⟨rfl,rfl,rfl⟩:=hs
   exact hQ a w G (.of hk hsk (C9.refl _ _ _) (Kp.refl _ _) (Nat.le_refl _))
 | o::rest,tm,h,c,a,w,G,hk,hsk,hs,hQ=>by
   refine wpList_step fun K' hK'=>?_
   simp only [bJ]at hs
   split at hs
   ·rename_i hg
    rw [Yp hsk hg,if_pos rfl]
    split at hs
    ·rename_i v h' c' hst
     split at hs
     ·rename_i tm' hp
      have hw:=WN (Q:=Q) hX hgt hrec hk hsk (o:=o) hst
      refine Oper.wp_mono (fun a' w' ⟨u,e,G',k1,k2,k3,k4,k5⟩=>?_) hw
      subst e
      have k6:=(hsk.mono k2.le k2.df).put k3 hp
      have kt:b9 F n h c G w tm' h' c' (a.put o.dst u) w' G':= .of k1 k6 k2 k4 k5
      exact hK' _ _ (Ut hX hgt hrec rest tm' h' c' _ w' G' k1 k6 hs fun a2 w2 G2 t2=>hQ a2 w2 G2 (kt.trans t2))
     ·cases hs
    ·cases hs
   ·rename_i hg
    rw [Yp hsk hg,if_neg (by simp)]
    split at hs
    ·rename_i tm' hp
     have k6:=hsk.put (v:=Go.undef) (x:= .sk) (d:=o.dst) rfl hp
     exact hK' _ _ (Ut hX hgt hrec rest tm' h c _ w G hk k6 hs hQ)
    ·cases hs
   ·cases hs
end
end
end Go.PL
namespace Go.PL
open Go Go.RowKit
noncomputable section
def IH (o:Oper):List Nat:=(o.after.toList.filter (Region.binds .any)).map (·.on)
def A4 (m j:Nat):Bool:=Nat.testBit m j
def ft (t:Kt Nat):List Nat→Nat
 | []=>0
 | j::js=>(1<<<j)||| (match t.get j with
   | some m=>m
   | none=>0)||| ft t js
def NL:List Oper→Nat→Kt Nat→Kt Nat
 | [],_,t=>t
 | o::r,i,t=>NL r (i+1) (t.put i (some (ft t (IH o))))
def Qn:List Oper→Nat→Bool
 | [],_=>true
 | o::r,i=>(IH o).all (fun j=>Nat.blt j i)&&Qn r (i+1)
def kmk' (t:Kt Nat) (i:Nat):Nat:=match t.get i with
 | some m=>m
 | none=>0
theorem ZD {t:Kt Nat} {j:Nat}: ∀ {l:List Nat},A4 (ft t l) j=true↔ ∃ k∈l,k=j∨A4 (kmk' t k) j=true
 | []=>by simp [ft,A4]
 | k::l=>by
   simp only [ft,A4,Nat.testBit_or,Bool.or_eq_true,List.mem_cons,exists_eq_or_imp]
   have ih:=ZD (t:=t) (j:=j) (l:=l)
   simp only [A4]at ih
   rw [ih]
   have h1:(1<<<k).testBit j=true↔k=j:=by
    rw [Nat.one_shiftLeft,Nat.testBit_two_pow];simp
   rw [h1]
   rfl
theorem SO {t t':Kt Nat}: ∀ {l:List Nat},(∀ j∈l,t.get j=t'.get j)→ft t l=ft t' l
 | [],_=>rfl
 | k::l,h=>by simp only [ft];rw [h k (by simp),SO (fun j hj=>h j (by simp [hj]))]
theorem Qo: ∀ (l:List Oper) (i:Nat) (t:Kt Nat) (j:Nat),j<i→(NL l i t).get j=t.get j
 | [],_,_,_,_=>rfl
 | o::r,i,t,j,h=>by
   simp only [NL]
   rw [Qo r (i+1) _ j (by omega),Kt.get_put,if_neg (by omega)]
theorem Uu: ∀ (l:List Oper) (i:Nat) (t:Kt Nat),Qn l i=true→ ∀ j o,l[j]? =some o→kmk' (NL l i t) (i+j)=ft (NL l i t) (IH o)∧ ∀ k∈IH o,k<i+j
 | [],_,_,_,j,o,h=>by simp at h
 | o'::r,i,t,hb,j,o,h=>by
   simp only [Qn,Bool.and_eq_true,List.all_eq_true,Nat.blt_eq]at hb
   simp only [NL]
   cases j with
   | zero=>
     simp at h;subst h
     simp only [Nat.add_zero]
     refine⟨?_,hb.1⟩
     have h1:=Qo r (i+1) (t.put i (some (ft t (IH o')))) i (by omega)
     unfold kmk'
     rw [h1,Kt.get_put,if_pos rfl]
     refine SO fun k hk=>?_
     have:=hb.1 k hk
     rw [Qo r (i+1) _ k (by omega),Kt.get_put,if_neg (by omega)]
   | succ j=>
     have:=Uu r (i+1) (t.put i (some (ft t (IH o')))) hb.2 j o (by simpa using h)
     rw [show i+(j+1)=i+1+j by omega]
     exact this
structure Uv (ops:Array Oper) (m:Nat→Nat):Prop where
 lt: ∀ i o,ops[i]? =some o→ ∀ j∈IH o,j<i
 bit: ∀ i o,ops[i]? =some o→ ∀ j,A4 (m i) j=true↔ ∃ k∈IH o,k=j∨A4 (m k) j=true
theorem iU {ops:Array Oper} (h:Qn ops.toList 0=true):Uv ops (kmk' (NL ops.toList 0 .lf)) where
 lt:=fun i o ho j hj=>by
  have:=(Uu ops.toList 0 .lf h i o (by simpa using ho)).2 j hj
  omega
 bit:=fun i o ho j=>by
  have:=(Uu ops.toList 0 .lf h i o (by simpa using ho)).1
  rw [Nat.zero_add]at this
  rw [this]
  exact ZD
section
variable {ops:Array Oper} {m:Nat→Nat}
theorem Uv.back (hm:Uv ops m): ∀ (i:Nat) o,ops[i]? =some o→ ∀ j,A4 (m i) j=true→j<i:=by
 intro i
 induction i using Nat.strongRecOn with
 | ind i ih=>
   intro o ho j hj
   obtain⟨k,hk,h⟩:=(hm.bit i o ho j).1 hj
   have hki:=hm.lt i o ho k hk
   rcases h with rfl | h
   ·exact hki
   ·have hlt:i<ops.size:=(Array.getElem?_eq_some_iff.1 ho).1
    have:=ih k hki ops[k] (by simp [Nat.lt_trans hki hlt]) j h
    omega
def nI (m:Nat→Nat) (N:Nat) (L:Array Bool):Prop:=L.size=N∧ ∀ k,L.getD k false=true→ ∀ j,A4 (m k) j=true→L.getD j false=true
theorem Uw (hm:Uv ops m) {L:Array Bool} (hd:nI m ops.size L) {i:Nat} (h:i∈Region.ready .any ops L): ∃ o,ops[i]? =some o∧L.getD i false=false∧ ∀ j,A4 (m i) j=true→L.getD j false=true:=by
 obtain⟨h0,o,ho,hall⟩:=mem_ready.1 h
 refine⟨o,ho,gP h0,fun j hj=>?_⟩
 obtain⟨k,hk,q⟩:=(hm.bit i o ho j).1 hj
 have hkL:L.getD k false=true:=by
  simp only [IH,List.mem_map,List.mem_filter]at hk
  obtain⟨e,⟨he,hb⟩,rfl⟩:=hk
  exact hall e (by simpa using he) hb
 rcases q with rfl | q
 ·exact hkL
 ·exact hd.2 k hkL j q
theorem nI.set (hm:Uv ops m) {L:Array Bool} (hd:nI m ops.size L) {i:Nat} (h:i∈Region.ready .any ops L):nI m ops.size (L.setIfInBounds i true):=by
 obtain⟨o,ho,h1,h2⟩:=Uw hm hd h
 refine⟨by simp [hd.1],fun k hk j hj=>?_⟩
 rcases Ca hk with rfl | hk
 ·exact getD_set_true (h2 j hj)
 ·exact getD_set_true (hd.2 k hk j hj)
theorem Yq (hm:Uv ops m) {L:Array Bool} (hs:L.size=ops.size) (h:Region.ready .any ops L=[]): ∀ i,i<ops.size→L.getD i false=true:=by
 intro i
 induction i using Nat.strongRecOn with
 | ind i ih=>
   intro hi
   cases hL:L.getD i false with
   | true=>rfl
   | false=>
     have:i∈Region.ready .any ops L:=mem_ready.2 ⟨by
      rw [Array.getD_eq_getD_getElem?]at hL ⊢
      rw [Array.getElem?_eq_getElem (by omega)]at hL ⊢
      simpa using hL,ops[i],by simp [hi],fun e he hb=>by
      have hk:e.on∈IH ops[i]:=by
       simp only [IH,List.mem_map,List.mem_filter]
       exact⟨e,⟨by simpa using he,hb⟩,rfl⟩
      have:=hm.lt i ops[i] (by simp [hi]) _ hk
      exact ih e.on this (by omega)⟩
     rw [h]at this;cases this
end
def WO:List (Nat×Ke)→Kt Ke→Kt Ke
 | [],t=>t
 | (i,e)::r,t=>(WO r t).put i (some e)
theorem bK {l:List (Nat×Ke)} {t:Kt Ke} (hn:(l.map (·.1)).Nodup) {id:Nat} {e:Ke}:(WO l t).get id=some e↔(id,e)∈l∨(id∉l.map (·.1)∧t.get id=some e):=by
 induction l with
 | nil=>simp [WO]
 | cons x l ih=>
   obtain⟨i,d⟩:=x
   simp only [List.map_cons,List.nodup_cons]at hn
   have ih:=ih hn.2
   simp only [WO,Kt.get_put,List.mem_cons,Prod.mk.injEq,List.map_cons]
   by_cases q:id=i
   ·subst q
    simp only [if_true,Option.some.injEq,true_and,true_or,not_true,false_and,or_false]
    constructor
    ·intro h;exact .inl h.symm
    ·rintro(h | h)
     ·exact h.symm
     ·exact absurd (List.mem_map.2 ⟨_,h,rfl⟩) hn.1
   ·rw [if_neg q,ih]
    simp [q]
theorem HK.sub {F:KF} {c:Nat} {h h1:Kt Ke} {w:World} {G:Kg} (hk:HK F c h w G) (hs: ∀ i e,h1.get i=some e→h.get i=some e):HK F c h1 w G:=
 ⟨fun i e q=>hk.ent i e (hs i e q),fun i j e d b q1 q2=>hk.inj i j e d b (hs i e q1) (hs j d q2),fun i e b q=>hk.new i e b (hs i e q),hk.fr,hk.inv,hk.out,hk.hsize,hk.ext⟩
theorem HK.join {F:KF} {c c':Nat} {U A A' U':Kt Ke} {w w':World} {G G':Kg} (hk:HK F c U w G) (hA: ∀ i e,A.get i=some e→U.get i=some e) (h2:HK F c' A' w' G') (hst:C9 A G w A' G' w') (hkp:Kp c G G')
 (hU: ∀ i e,U'.get i=some e→A'.get i=some e∨(U.get i=some e∧A.get i=none)):HK F c' U' w' G'∧C9 U G w U' G' w':=by
 have old: ∀ i e,U.get i=some e→ ∃ b,G.blk i=some b∧G'.blk i=some b∧b<w.heap.size:=fun i e hi=>by
  obtain⟨b,_,_,_,_,h1,_⟩:=hk.ent i e hi
  exact⟨b,h1,hst.le.blk _ _ h1,hk.lt hi h1⟩
 have unowned: ∀ i e b,U.get i=some e→A.get i=none→G.blk i=some b→ ∀ j d,A.get j=some d→G.blk j ≠ some b:=fun i e b hi hn hb j d hj q=>by
  have:=hk.inj i j e d b hi (hA j d hj) hb q
  subst this
  rw [hn]at hj;cases hj
 have cross: ∀ i e b,U.get i=some e→A.get i=none→G'.blk i=some b→ ∀ j d,A'.get j=some d→G'.blk j=some b→False:=fun i e b hi hn hb j d hj q=>by
  obtain⟨b',k1,k2,k3⟩:=old i e hi
  rw [hb]at k2;injection k2 with k2;subst k2
  rcases hst.own j d b hj q with r | ⟨j',d',r1,r2⟩
  ·omega
  ·exact unowned i e b hi hn k1 j' d' r1 r2
 refine⟨⟨fun i e hi=>?_,fun i j e d b hi hj hbi hbj=>?_,fun i e b hi hb=>?_,h2.fr,h2.inv,h2.out,h2.hsize,h2.ext⟩,⟨hst.le,hst.size,fun b hb hu=>hst.frm b hb fun i e hi=>hu i e (hA i e hi),fun i e b hi hb=>?_,hst.out,hst.df⟩⟩
 ·rcases hU i e hi with q | ⟨q1,q2⟩
  ·exact h2.ent i e q
  ·refine Up.mono hst.le (fun b hb=>hst.frm b (hk.lt q1 hb) (unowned i e b q1 q2 hb)) (hk.ent i e q1)
 ·rcases hU i e hi with q | ⟨q1,q2⟩<;>rcases hU j d hj with r | ⟨r1,r2⟩
  ·exact h2.inj i j e d b q r hbi hbj
  ·exact(cross j d b r1 r2 hbj i e q hbi).elim
  ·exact(cross i e b q1 q2 hbi j d r hbj).elim
  ·obtain⟨b1,k1,k2,_⟩:=old i e q1
   obtain⟨b2,k3,k4,_⟩:=old j d r1
   rw [hbi]at k2;injection k2 with k2;subst k2
   rw [hbj]at k4;injection k4 with k4;subst k4
   exact hk.inj i j e d b q1 r1 k1 k3
 ·rcases hU i e hi with q | ⟨q1,q2⟩
  ·exact h2.new i e b q hb
  ·obtain⟨b1,k1,k2,_⟩:=old i e q1
   rw [hb]at k2;injection k2 with k2;subst k2
   exact hk.new i e b q1 k1
 ·rcases hU i e hi with q | ⟨q1,q2⟩
  ·rcases hst.own i e b q hb with r | ⟨j,d,r1,r2⟩
   ·exact .inl r
   ·exact .inr ⟨j,d,hA j d r1,r2⟩
  ·obtain⟨b1,k1,k2,_⟩:=old i e q1
   rw [hb]at k2;injection k2 with k2;subst k2
   exact .inr ⟨i,e,q1,k1⟩
end
end Go.PL
namespace Go.PL
open Go Go.RowKit
noncomputable section
inductive Ko where
 | fl
 | ld
 | mk (e:Ke)
 | ch
structure KD where
 V:Nat→Kv
 kd:Nat→Ko
 qi:Nat→Nat
 Hp:Nat→Kt Ke
 Cn:Nat→Nat
 ab:Nat→Nat
 mks:List (Nat×Ke)
 M:Nat
def Ux (c0:Nat) (mks:List (Nat×Ke)) (ab:Nat) (f:Nat→Bool):List (Nat×Ke):=(mks.filter fun x=>f x.1&& !(A4 ab x.1)).map fun x=>(c0+x.1,x.2)
def KD.U (D:KD) (c0:Nat) (f:Nat→Bool) (p:Nat):Kt Ke:=WO (Ux c0 D.mks (D.ab p) f) (D.Hp p)
def iV (dm:Kt Nat) (mi:Nat) (tm:Kt Kv) (V:Nat→Kv) (s:Nat):Kv:=match dm.get s with
 | some j=>match A4 mi j with
   | true=>V j
   | false=>gt tm s
 | none=>gt tm s
def Ct (dm:Kt Nat) (mi:Nat) (tm:Kt Kv) (V:Nat→Kv):List Nat→Kt Kv
 | []=> .lf
 | s::r=>(Ct dm mi tm V r).put s (some (iV dm mi tm V s))
theorem WP {dm:Kt Nat} {mi:Nat} {tm:Kt Kv} {V:Nat→Kv}: ∀ {l:List Nat} {s:Nat},gt (Ct dm mi tm V l) s=if s∈l then iV dm mi tm V s else .u
 | [],s=>by simp [Ct,gt,Kt.get_lf]
 | x::r,s=>by
   have ih:=WP (dm:=dm) (mi:=mi) (tm:=tm) (V:=V) (l:=r) (s:=s)
   simp only [gt]at ih
   simp only [Ct,gt,Kt.get_put,List.mem_cons]
   by_cases q:s=x
   ·subst q;simp
   ·rw [if_neg q,ih];simp [q]
def WQ (V:Nat→Kv):List Oper→Nat→Kt Kv→Kt Kv
 | [],_,t=>t
 | o::r,i,t=>WQ V r (i+1) (match o.dst with
   | some d=>t.put d (some (V i))
   | none=>t)
theorem My {V:Nat→Kv}: ∀ {l:List Oper} {i:Nat} {t:Kt Kv} {s:Nat},(∀ (j:Nat) (o:Oper),l[j]? =some o→o.dst ≠ some s)→gt (WQ V l i t) s=gt t s
 | [],_,_,_,_=>rfl
 | o::r,i,t,s,h=>by
   simp only [WQ]
   rw [My (fun j o' ho=>h (j+1) o' (by simpa using ho))]
   have h0:=h 0 o (by simp)
   cases hd:o.dst with
   | none=>rfl
   | some d=>simp only [gt,Kt.get_put];rw [if_neg (fun e=>h0 (by rw [hd,e]))]
theorem SP {V:Nat→Kv}: ∀ {l:List Oper} {i:Nat} {t:Kt Kv} {s j:Nat} {o:Oper},l[j]? =some o→o.dst=some s→(∀ (j':Nat) (o':Oper),j' ≠ j→l[j']? =some o'→o'.dst ≠ some s)→gt (WQ V l i t) s=V (i+j)
 | [],_,_,_,_,_,h,_,_=>by simp at h
 | o'::r,i,t,s,j,o,h,hd,hu=>by
   simp only [WQ]
   cases j with
   | zero=>
     simp at h;subst h
     rw [My (fun j o'' ho=>hu (j+1) o'' (by omega) (by simpa using ho)),hd]
     simp [gt,Kt.get_put]
   | succ j=>
     rw [SP (j:=j) (o:=o) (by simpa using h) hd (fun j' o'' hj ho=>hu (j'+1) o'' (by omega) (by simpa using ho)),show i+1+j=i+(j+1) by omega]
section
variable {P:Program} {X:KX} {gs:List (Nat×List Kc)} {rec:QS} {ops:Array Oper} {m:Nat→Nat} {dm:Kt Nat} {n c0:Nat} {tm:Kt Kv} {h:Kt Ke} {D:KD}
structure qe (P:Program) (X:KX) (gs:List (Nat×List Kc)) (rec:QS) (ops:Array Oper) (m:Nat→Nat) (dm:Kt Nat) (c0:Nat) (tm:Kt Kv) (D:KD) (i:Nat) (o:Oper):Prop where
 g: ∃ g,mJ (Ct dm (m i) tm D.V (o.looksAt ops)) ops o=some g∧(g=false→D.kd i= .fl ∧D.V i= .sk)∧(g=true→
  (D.kd i= .fl →QR P (Ct dm (m i) tm D.V (o.looksAt ops)) o.op=some (D.V i))∧
  (D.kd i= .ld → ∀ p,p≤D.M→(∀ k,k<ops.size→D.kd k= .ch →(A4 (m i) k=true→D.qi k<p)∧(A4 (m k) i=true→p≤D.qi k))→lZ P gs (D.U c0 (A4 (m i)) p) (Ct dm (m i) tm D.V (o.looksAt ops)) o.op=some (D.V i))∧
  (∀ e,D.kd i= .mk e→mI P (Ct dm (m i) tm D.V (o.looksAt ops)) o.op (c0+i)=some (e,D.V i))∧
  (D.kd i= .ch →SN P X gs rec (Ct dm (m i) tm D.V (o.looksAt ops)) (D.U c0 (A4 (m i)) (D.qi i)) (D.Cn (D.qi i)) o.op=some (D.V i,D.Hp (D.qi i+1),D.Cn (D.qi i+1))))
structure Yr (P:Program) (X:KX) (gs:List (Nat×List Kc)) (rec:QS) (ops:Array Oper) (m:Nat→Nat) (dm:Kt Nat) (n c0:Nat) (tm:Kt Kv) (h:Kt Ke) (D:KD):Prop where
 hm:Uv ops m
 dst: ∀ (i j:Nat) (oi oj:Oper),ops[i]? =some oi→ops[j]? =some oj→i ≠ j→ ∀ d,oj.dst=some d→oi.dst ≠ some d∧(d∈oi.looksAt ops→A4 (m i) j=true∨A4 (m j) i=true)
 dmk: ∀ s j,dm.get s=some j↔ ∃ o,ops[j]? =some o∧o.dst=some s
 dlt: ∀ (i:Nat) (o:Oper) (d:Nat),ops[i]? =some o→o.dst=some d→d<n
 ev: ∀ (i:Nat) (o:Oper),ops[i]? =some o→qe P X gs rec ops m dm c0 tm D i o
 mkn:(D.mks.map (·.1)).Nodup
 mkm: ∀ i e,(i,e)∈D.mks↔i<ops.size∧D.kd i= .mk e
 chq: ∀ i,i<ops.size→D.kd i= .ch →D.qi i<D.M
 chs: ∀ p,p<D.M→ ∃ i,i<ops.size∧D.kd i= .ch ∧D.qi i=p
 cho: ∀ i j,i<ops.size→j<ops.size→D.kd i= .ch →D.kd j= .ch →D.qi i<D.qi j→A4 (m j) i=true
 chi: ∀ i j,i<ops.size→j<ops.size→D.kd i= .ch →D.kd j= .ch →D.qi i=D.qi j→i=j
 ab0:D.ab 0=0
 abS: ∀ i,i<ops.size→D.kd i= .ch →D.ab (D.qi i+1)=D.ab (D.qi i)||| m i
 H0:D.Hp 0=h
 C0:D.Cn 0=c0+ops.size
theorem Qp {c0:Nat} {mks:List (Nat×Ke)} {ab:Nat} {f:Nat→Bool} {id:Nat} {e:Ke}:(id,e)∈Ux c0 mks ab f↔ ∃ j,id=c0+j∧(j,e)∈mks∧f j=true∧A4 ab j=false:=by
 simp only [Ux,List.mem_map,List.mem_filter,Bool.and_eq_true,Bool.not_eq_true',Prod.mk.injEq,Prod.exists]
 constructor
 ·rintro⟨j,e',⟨h1,h2,h3⟩,h4,h5⟩
  subst h5
  exact⟨j,h4.symm,h1,h2,h3⟩
 ·rintro⟨j,rfl,h1,h2,h3⟩
  exact⟨j,e,⟨h1,h2,h3⟩,rfl,rfl⟩
theorem iW {c0:Nat} {mks:List (Nat×Ke)} {ab:Nat} {f:Nat→Bool} (h:(mks.map (·.1)).Nodup):((Ux c0 mks ab f).map (·.1)).Nodup :=by
 induction mks with
 | nil=>simp [Ux]
 | cons x l ih=>
   simp only [List.map_cons,List.nodup_cons]at h
   have ih:=ih h.2
   simp only [Ux,List.filter_cons]at ih ⊢
   split
   ·simp only [List.map_cons,List.nodup_cons]
    refine⟨fun q=>h.1 ?_,ih⟩
    simp only [List.map_map,List.mem_map,List.mem_filter,Function.comp]at q
    obtain⟨y,⟨hy,_⟩,e⟩:=q
    have:y.1=x.1:=by simp at e;exact e
    exact List.mem_map.2 ⟨y,hy,this⟩
   ·exact ih
theorem KD.U_get (hn:(D.mks.map (·.1)).Nodup) {f:Nat→Bool} {p id:Nat} {e:Ke}:(D.U c0 f p).get id=some e↔(∃ j,id=c0+j∧(j,e)∈D.mks∧f j=true∧A4 (D.ab p) j=false)∨((¬ ∃ j e',id=c0+j∧(j,e')∈D.mks∧f j=true∧A4 (D.ab p) j=false)∧(D.Hp p).get id=some e):=by
 unfold KD.U
 rw [bK (iW hn),Qp]
 refine or_congr Iff.rfl (and_congr_left fun _=>not_congr ?_)
 simp only [List.mem_map,Prod.exists,exists_and_right,exists_eq_right]
 constructor
 ·rintro⟨e',he⟩
  obtain⟨j,h1,h2⟩:=Qp.1 he
  exact⟨j,e',h1,h2⟩
 ·rintro⟨j,e',h1,h2⟩
  exact⟨e',Qp.2 ⟨j,h1,h2⟩⟩
structure Lr (ops:Array Oper) (m:Nat→Nat) (dm:Kt Nat) (n c0:Nat) (tm:Kt Kv) (h:Kt Ke) (D:KD) (F:KF) (G0:Kg) (w0:World) (L:Array Bool) (p:Nat) (a:Act) (w:World) (G:Kg):Prop where
 d:nI m ops.size L
 pM:p≤D.M
 pc: ∀ k,k<ops.size→D.kd k= .ch →(L.getD k false=true↔D.qi k<p)
 hk:HK F (D.Cn p) (D.U c0 (fun j=>L.getD j false) p) w G
 cle:c0+ops.size≤D.Cn p
 und: ∀ j,j<ops.size→(L.getD j false=false∨ ∀ e,D.kd j ≠ .mk e)→G.blk (c0+j)=none∧G.cap (c0+j)=none
 res: ∀ j e,(j,e)∈D.mks→A4 (D.ab p) j=false→(D.Hp p).get (c0+j)=none
 abL: ∀ j,A4 (D.ab p) j=true→L.getD j false=true
 sl: ∀ s,KV G (match dm.get s with
  | some j=>match L.getD j false with
    | true=>D.V j
    | false=>gt tm s
  | none=>gt tm s) (a.tmps.getD s Go.undef)
 sz:a.tmps.size=n
 dfr:a.defers=G.df
 st:C9 h G0 w0 (D.U c0 (fun j=>L.getD j false) p) G w
 kp:Kp c0 G0 G
theorem Lr.view (hy:Yr P X gs rec ops m dm n c0 tm h D) {F:KF} {G0 G:Kg} {w0 w:World} {L:Array Bool} {p:Nat} {a:Act} (hi:Lr ops m dm n c0 tm h D F G0 w0 L p a w G) {i:Nat} {o:Oper} (ho:ops[i]? =some o) (hun:L.getD i false=false) (hpre: ∀ j,A4 (m i) j=true→L.getD j false=true):
 SK n (Ct dm (m i) tm D.V (o.looksAt ops)) a G:=by
 refine⟨hi.dfr,hi.sz,fun s=>?_⟩
 rw [WP]
 by_cases hs:s∈o.looksAt ops
 ·rw [if_pos hs]
  have h1:=hi.sl s
  unfold iV
  cases hd:dm.get s with
  | none=>rw [hd]at h1;exact h1
  | some j=>
    rw [hd]at h1
    simp only at h1 ⊢
    cases hb:A4 (m i) j with
    | true=>rw [hpre j hb]at h1;exact h1
    | false=>
      obtain⟨oj,hoj,hdj⟩:=(hy.dmk s j).1 hd
      have hL:L.getD j false=false:=by
       by_cases e:i=j
       ·subst e;exact hun
       ·rcases (hy.dst i j o oj ho hoj e s hdj).2 hs with q | q
        ·rw [hb]at q;cases q
        ·cases hL:L.getD j false with
         | false=>rfl
         | true=>rw [hi.d.2 j hL i q]at hun;cases hun
      rw [hL]at h1
      exact h1
 ·rw [if_neg hs];trivial
theorem CC {L:Array Bool} {i:Nat} (h:i<L.size):(L.setIfInBounds i true).getD i false=true:=by
 simp [h]
theorem AZ {L:Array Bool} {i j:Nat} (h:j ≠ i):(L.setIfInBounds i true).getD j false=L.getD j false:=by
 simp [Array.getD_eq_getD_getElem?,Array.getElem?_setIfInBounds,Ne.symm h]
theorem Lr.slots (hy:Yr P X gs rec ops m dm n c0 tm h D) {F:KF} {G0 G G':Kg} {w0 w:World} {L:Array Bool} {p:Nat} {a:Act} (hi:Lr ops m dm n c0 tm h D F G0 w0 L p a w G) {i:Nat} {o:Oper} (ho:ops[i]? =some o) (hle:G.le G') (hdf:G'.df=G.df) {u:Value} (hu:KV G' (D.V i) u):
 (∀ s,KV G' (match dm.get s with
  | some j=>match (L.setIfInBounds i true).getD j false with
    | true=>D.V j
    | false=>gt tm s
  | none=>gt tm s) ((a.put o.dst u).tmps.getD s Go.undef))∧(a.put o.dst u).tmps.size =n∧(a.put o.dst u).defers =G'.df:=by
 have hlt:i<ops.size:=(Array.getElem?_eq_some_iff.1 ho).1
 have hil:i<L.size:=by rw [hi.d.1];exact hlt
 refine⟨fun s=>?_,?_,?_⟩
 ·have h1:=(hi.sl s).mono hle
  cases hd:dm.get s with
  | none=>
    rw [hd]at h1
    simp only at h1 ⊢
    have hne: ∀ d,o.dst=some d→d ≠ s:=fun d hd' e=>by
     subst e
     have:=(hy.dmk d i).2 ⟨o,ho,hd'⟩
     rw [hd]at this;cases this
    rw [Cb hne]
    exact h1
  | some j=>
    rw [hd]at h1
    simp only at h1 ⊢
    obtain⟨oj,hoj,hdj⟩:=(hy.dmk s j).1 hd
    by_cases e:j=i
    ·subst e
     rw [hoj]at ho;injection ho with ho;subst ho
     rw [CC hil]
     have hs:s<n:=hy.dlt j oj s hoj hdj
     have:(a.put oj.dst u).tmps.getD s Go.undef=u:=by
      rw [hdj]
      simp [Act.put,Array.getD_eq_getD_getElem?,hi.sz,hs]
     rw [this]
     exact hu
    ·rw [AZ e]
     have hne: ∀ d,o.dst=some d→d ≠ s:=fun d hd' e2=>by
      subst e2
      exact(hy.dst i j o oj ho hoj (Ne.symm e) d hdj).1 hd'
     rw [Cb hne]
     exact h1
 ·cases hd:o.dst<;>simp [Act.put,hi.sz]
 ·cases hd:o.dst<;>simp [Act.put,hi.dfr,hdf]
end
end
end Go.PL
namespace Go.PL
open Go Go.RowKit
noncomputable section
section
variable {P:Program} {X:KX} {gs:List (Nat×List Kc)} {rec:QS} {ops:Array Oper} {m:Nat→Nat} {dm:Kt Nat} {n c0:Nat} {tm:Kt Kv} {h:Kt Ke} {D:KD}
theorem Uy (a b j:Nat):A4 (a||| b) j=true↔A4 a j=true∨A4 b j=true:=by simp [A4,Nat.testBit_or]
theorem Lr.quiet (hy:Yr P X gs rec ops m dm n c0 tm h D) {F:KF} {G0 G:Kg} {w0 w:World} {L:Array Bool} {p:Nat} {a:Act} (hi:Lr ops m dm n c0 tm h D F G0 w0 L p a w G) {i:Nat} {o:Oper} (ho:ops[i]? =some o) (hr:i∈Region.ready .any ops L) (hnm: ∀ e,D.kd i ≠ .mk e) (hnc:D.kd i ≠ .ch) {u:Value} (hu:KV G (D.V i) u):
 Lr ops m dm n c0 tm h D F G0 w0 (L.setIfInBounds i true) p (a.put o.dst u) w G:=by
 obtain⟨s1,s2,s3⟩:=hi.slots hy ho (Kg.le.refl G) rfl hu
 have hU: ∀ id e,(D.U c0 (fun j=>(L.setIfInBounds i true).getD j false) p).get id=some e↔(D.U c0 (fun j=>L.getD j false) p).get id=some e:=fun id e=>by
  rw [KD.U_get hy.mkn,KD.U_get hy.mkn]
  have key: ∀ j e',(j,e')∈D.mks→((L.setIfInBounds i true).getD j false=true↔L.getD j false=true):=fun j e' hj=>by
   have hk:=((hy.mkm j e').1 hj).2
   rw [AZ (fun q=>hnm e' (by rw [←q];exact hk))]
  refine or_congr (exists_congr fun j=>and_congr_right fun _=>and_congr_right fun hj=>and_congr_left fun _=>key j e hj) (and_congr_left fun _=>not_congr (exists_congr fun j=>exists_congr fun e'=>and_congr_right fun _=>and_congr_right fun hj=>and_congr_left fun _=>key j e' hj))
 refine⟨hi.d.set hy.hm hr,hi.pM,fun k hk hck=>?_,hi.hk.sub fun id e q=>(hU id e).1 q,hi.cle,fun j hj hor=>?_,hi.res,fun j hj=>?_,s1,s2,s3,?_,hi.kp⟩
 ·rw [AZ (fun q=>hnc (by rw [←q];exact hck))]
  exact hi.pc k hk hck
 ·refine hi.und j hj (hor.imp (fun q=>?_) (fun q=>q))
  by_cases e:j=i
  ·subst e
   rw [CC (by rw [hi.d.1];exact hj)]at q;cases q
  ·rw [AZ e]at q;exact q
 ·exact getD_set_true (hi.abL j hj)
 ·exact⟨hi.st.le,hi.st.size,hi.st.frm,fun id e b q=>hi.st.own id e b ((hU id e).1 q),hi.st.out,hi.st.df⟩
theorem Lr.part (hy:Yr P X gs rec ops m dm n c0 tm h D) {F:KF} {G0 G:Kg} {w0 w:World} {L:Array Bool} {p:Nat} {a:Act} (hi:Lr ops m dm n c0 tm h D F G0 w0 L p a w G) {i:Nat} (hpre: ∀ j,A4 (m i) j=true→L.getD j false=true):
 ∀ id e,(D.U c0 (A4 (m i)) p).get id=some e→(D.U c0 (fun j=>L.getD j false) p).get id=some e:=fun id e q=>by
 rw [KD.U_get hy.mkn]at q ⊢
 rcases q with ⟨j,h1,h2,h3,h4⟩ | ⟨h1,h2⟩
 ·exact .inl ⟨j,h1,h2,hpre j h3,h4⟩
 ·refine .inr ⟨fun⟨j,e',g1,g2,g3,g4⟩=>?_,h2⟩
  have:=hi.res j e' g2 g4
  rw [←g1,h2]at this;cases this
theorem fu {F:KF} (hX:QT P F.I X) (hgt:Ur F.I gs) (hrec:Lp P F.I rec) (hy:Yr P X gs rec ops m dm n c0 tm h D) {G0 G:Kg} {w0 w:World} {L:Array Bool} {p:Nat} {a:Act} (hi:Lr ops m dm n c0 tm h D F G0 w0 L p a w G) {i:Nat} (hr:i∈Region.ready .any ops L) {Q:Exit→Act→World→Prop}:
 wpOp P ops Q i (fun a' w'=> ∃ p' G',Lr ops m dm n c0 tm h D F G0 w0 (L.setIfInBounds i true) p' a' w' G') a w:=by
 obtain⟨o,ho,hun,hpre⟩:=Uw hy.hm hi.d hr
 have hlt:i<ops.size:=(Array.getElem?_eq_some_iff.1 ho).1
 have hil:i<L.size:=by rw [hi.d.1];exact hlt
 have hsk:=hi.view hy ho hun hpre
 obtain⟨g,hg,hg0,hg1⟩:=(hy.ev i o ho).g
 have hw:=Yp hsk hg
 unfold wpOp
 simp only [ho,hw]
 cases g with
 | false=>
   obtain⟨q1,q2⟩:=hg0 rfl
   rw [if_neg (by simp)]
   exact⟨p,G,hi.quiet hy ho hr (fun e q=>by rw [q1]at q;cases q) (fun q=>by rw [q1]at q;cases q) (by rw [q2];rfl)⟩
 | true=>
   rw [if_pos rfl]
   left
   obtain⟨k1,k2,k3,k4⟩:=hg1 rfl
   cases hkd:D.kd i with
   | fl=>
     obtain⟨u,q1,q2⟩:=Zz hsk (k1 hkd)
     exact Ap (q2 w) ⟨p,G,hi.quiet hy ho hr (fun e q=>by rw [hkd]at q;cases q) (fun q=>by rw [hkd]at q;cases q) q1⟩
   | ld=>
     have hwin: ∀ k,k<ops.size→D.kd k= .ch →(A4 (m i) k=true→D.qi k<p)∧(A4 (m k) i=true→p≤D.qi k):=fun k hk hck=>⟨fun q=>(hi.pc k hk hck).1 (hpre k q),fun q=>by
      rcases Nat.lt_or_ge (D.qi k) p with r | r
      ·have:=(hi.pc k hk hck).2 r
       rw [hi.d.2 k this i q]at hun;cases hun
      ·exact r⟩
     obtain⟨u,q1,q2⟩:=fb hgt (hi.hk.sub (hi.part hy hpre)) hsk (k2 hkd p hi.pM hwin)
     exact Ap q2 ⟨p,G,hi.quiet hy ho hr (fun e q=>by rw [hkd]at q;cases q) (fun q=>by rw [hkd]at q;cases q) q1⟩
   | mk e=>
     have hmem:(i,e)∈D.mks:=(hy.mkm i e).2 ⟨hlt,hkd⟩
     have hnab:A4 (D.ab p) i=false:=by
      cases hb:A4 (D.ab p) i with
      | false=>rfl
      | true=>rw [hi.abL i hb]at hun;cases hun
     have hund:=hi.und i hlt (.inl hun)
     have hget:(D.U c0 (fun j=>L.getD j false) p).get (c0+i)=none:=by
      cases hq:(D.U c0 (fun j=>L.getD j false) p).get (c0+i)with
      | none=>rfl
      | some d=>
        obtain⟨b,_,_,_,_,r,_⟩:=hi.hk.ent _ _ hq
        rw [hund.1]at r;cases r
     obtain⟨u,w',G',q1,q2,q3,q4,q5,q6⟩:=fc (c':=D.Cn p) hi.hk hsk (by have:=hi.cle;omega) (Nat.le_refl _) hund hget (k3 e hkd)
     obtain⟨s1,s2,s3⟩:=hi.slots hy ho q3.le q3.df q4
     have hU: ∀ id d,(D.U c0 (fun j=>(L.setIfInBounds i true).getD j false) p).get id=some d→((D.U c0 (fun j=>L.getD j false) p).put (c0+i) (some e)).get id=some d:=fun id d q=>by
      rw [Kt.get_put]
      rw [KD.U_get hy.mkn]at q
      by_cases hid:id=c0+i
      ·rw [if_pos hid]
       rcases q with ⟨j,h1,h2,h3,h4⟩ | ⟨h1,h2⟩
       ·have:j=i:=by omega
        subst this
        have:=((hy.mkm j d).1 h2).2
        rw [hkd]at this;injection this with this;rw [this]
       ·exact absurd ⟨i,e,hid,hmem,CC hil,hnab⟩ h1
      ·rw [if_neg hid,KD.U_get hy.mkn]
       rcases q with ⟨j,h1,h2,h3,h4⟩ | ⟨h1,h2⟩
       ·have hne:j ≠ i:=fun e=>hid (by rw [h1,e])
        rw [AZ hne]at h3
        exact .inl ⟨j,h1,h2,h3,h4⟩
       ·exact .inr ⟨fun⟨j,e',g1,g2,g3,g4⟩=>h1 ⟨j,e',g1,g2,getD_set_true g3,g4⟩,h2⟩
     refine Ap q1 ⟨p,G',hi.d.set hy.hm hr,hi.pM,fun k hk hck=>?_,q2.sub hU,hi.cle,fun j hj hor=>?_,hi.res,fun j hj=>getD_set_true (hi.abL j hj),s1,s2,s3,?_,?_⟩
     ·rw [AZ (fun q=>by rw [q,hkd]at hck;cases hck)]
      exact hi.pc k hk hck
     ·have hne:j ≠ i:=fun q=>by
       subst q
       rcases hor with q | q
       ·rw [CC hil]at q;cases q
       ·exact q e hkd
      rw [(q5 (c0+j) (by omega)).1,(q5 (c0+j) (by omega)).2]
      exact hi.und j hj (hor.imp (fun q=>by rw [AZ hne]at q;exact q) fun q=>q)
     ·have t:=hi.st.trans q3
      exact⟨t.le,t.size,t.frm,fun id d b q=>t.own id d b (hU id d q),t.out,t.df⟩
     ·intro id hid
      rw [(q5 id (by omega)).1,(q5 id (by omega)).2]
      exact hi.kp id hid
   | ch=>
     have hqi:D.qi i=p:=by
      have h1: ¬D.qi i<p:=fun q=>by
       have:=(hi.pc i hlt hkd).2 q
       rw [this]at hun;cases hun
      rcases Nat.lt_or_ge p (D.qi i)with q | q
      ·have hpM:p<D.M:=Nat.lt_trans q (hy.chq i hlt hkd)
       obtain⟨k,hk,hck,hqk⟩:=hy.chs p hpM
       have hb:=hy.cho k i hk hlt hck hkd (by omega)
       have:=(hi.pc k hk hck).1 (hpre k hb)
       omega
      ·omega
     have hst:=k4 hkd
     rw [hqi]at hst
     have hpart:=hi.part hy hpre
     have hwp:=WN (Q:=Q) hX hgt hrec (hi.hk.sub hpart) hsk hst
     refine Oper.wp_mono (fun a' w' ⟨u,he,G',b1,b2,b3,b4,b5⟩=>?_) hwp
     subst he
     obtain⟨s1,s2,s3⟩:=hi.slots hy ho b2.le b2.df b3
     have habS:D.ab (p+1)=D.ab p||| m i:=by rw [←hqi];exact hy.abS i hlt hkd
     have hset: ∀ j,A4 (D.ab (p+1)) j=false→A4 (D.ab p) j=false∧A4 (m i) j=false:=fun j hj=>by
      constructor
      ·cases hq:A4 (D.ab p) j with
       | false=>rfl
       | true=>rw [habS,(Uy _ _ _).2 (.inl hq)]at hj;cases hj
      ·cases hq:A4 (m i) j with
       | false=>rfl
       | true=>rw [habS,(Uy _ _ _).2 (.inr hq)]at hj;cases hj
     have extra: ∀ j e,(j,e)∈D.mks→L.getD j false=true→A4 (D.ab (p+1)) j=false→(D.U c0 (fun j=>L.getD j false) p).get (c0+j)=some e∧(D.U c0 (A4 (m i)) p).get (c0+j)=none:=fun j e hj hL hb=>by
      obtain⟨h1,h2⟩:=hset j hb
      refine⟨(KD.U_get hy.mkn).2 (.inl ⟨j,rfl,hj,hL,h1⟩),?_⟩
      cases hq:(D.U c0 (A4 (m i)) p).get (c0+j)with
      | none=>rfl
      | some d=>
        rw [KD.U_get hy.mkn]at hq
        rcases hq with ⟨j',g1,g2,g3,g4⟩ | ⟨g1,g2⟩
        ·have:j'=j:=by omega
         subst this
         rw [h2]at g3;cases g3
        ·rw [hi.res j e hj h1]at g2;cases g2
     have hres: ∀ j e,(j,e)∈D.mks→A4 (D.ab (p+1)) j=false→(D.Hp (p+1)).get (c0+j)=none:=fun j e hj hb=>by
      have hjl:=((hy.mkm j e).1 hj).1
      cases hq:(D.Hp (p+1)).get (c0+j)with
      | none=>rfl
      | some d=>
        exfalso
        obtain⟨b,_,_,_,_,r,_⟩:=b1.ent _ _ hq
        have hkeep:=b4 (c0+j) (by have:=hi.cle;omega)
        cases hL:L.getD j false with
        | false=>
          have:=(hi.und j hjl (.inl hL)).1
          rw [hkeep.1,this]at r;cases r
        | true=>
          obtain⟨x1,x2⟩:=extra j e hj hL hb
          obtain⟨b',_,_,_,_,y1,_⟩:=hi.hk.ent _ _ x1
          rw [hkeep.1,y1]at r;injection r with r;subst r
          rcases b2.own _ _ b' hq (b2.le.blk _ _ y1)with z | ⟨j',d',z1,z2⟩
          ·have:=hi.hk.lt x1 y1;omega
          ·have:=hi.hk.inj (c0+j) j' e d' b' x1 (hpart j' d' z1) y1 z2
           rw [←this,x2]at z1;cases z1
     obtain⟨t1,t2⟩:=hi.hk.join (U':=D.U c0 (fun j=>(L.setIfInBounds i true).getD j false) (p+1)) hpart b1 b2 b4 fun id e q=>by
      rw [KD.U_get hy.mkn]at q
      rcases q with ⟨j,h1,h2,h3,h4⟩ | ⟨h1,h2⟩
      ·have hne:j ≠ i:=fun e'=>by
        have:=((hy.mkm j e).1 h2).2
        rw [e',hkd]at this;cases this
       rw [AZ hne]at h3
       rw [h1]
       exact .inr (extra j e h2 h3 h4)
      ·exact .inl h2
     have hp1:p+1≤D.M:=by have:=hy.chq i hlt hkd;omega
     refine⟨p+1,G',hi.d.set hy.hm hr,hp1,fun k hk hck=>?_,t1,by have:=hi.cle;omega,fun j hj hor=>?_,hres,fun j hj=>?_,s1,s2,s3,hi.st.trans t2,hi.kp.trans b4 (by have:=hi.cle;omega)⟩
     ·by_cases e:k=i
      ·subst e
       rw [CC hil]
       simp;omega
      ·rw [AZ e,hi.pc k hk hck]
       constructor
       ·omega
       ·intro q
        have:D.qi k ≠ p:=fun q2=>e (hy.chi k i hk hlt hck hkd (by rw [q2,hqi]))
        omega
     ·have hkeep:=b4 (c0+j) (by have:=hi.cle;omega)
      rw [hkeep.1,hkeep.2]
      refine hi.und j hj ?_
      by_cases e:j=i
      ·subst e;exact .inr fun e' q=>by rw [hkd]at q;cases q
      ·exact hor.imp (fun q=>by rw [AZ e]at q;exact q) fun q=>q
     ·rw [habS,Uy]at hj
      rcases hj with q | q
      ·exact getD_set_true (hi.abL j q)
      ·exact getD_set_true (hpre j q)
end
end
end Go.PL
