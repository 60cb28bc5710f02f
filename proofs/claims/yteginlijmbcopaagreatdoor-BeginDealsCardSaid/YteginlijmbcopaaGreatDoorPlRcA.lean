/- Plain laws of catalogues: what the reference answers. -/
import Derived.Test.YteginlijmbcopaaGreatDoorTv2toPlPx
import Derived.Lib.IndexMore
import Derived.Test.YteginlijmbcopaaGreatDoorTv2toPlPx
import Derived.Test.YteginlijmbcopaaGreatDoorPlBlX
open List (all_eq_true mem_range)
open Bool (and_eq_true)
open Option.some (injEq)
namespace Go.PL
open Go
set_option maxRecDepth 100000
set_option linter.all false
set_option maxHeartbeats 4000000
theorem nT {α:Type} [Inhabited α] {l:List α} {i:Nat} (h:i<l.length):idx l (i:Int)=some (l.getD i default):=by rw [Al h,sX h]
theorem N_ {i:Nat} (h:i<9223372036854775807):Ab ((i:Int)+1)=(i:Int)+1:=by grind [Ay]
theorem Afx {β γ:Type} {p:Nat->Bool} {c:β} {B:Int->Option (Int⊕(Unit⊕β))} {K:Option γ} {f:β->Option γ} (n:Nat) (hn:n<9223372036854775807)
 (hB: ∀ i:Nat,i<n->B (i:Int)=some (if p i=true then .inl ((i:Int)+1)else .inr (.inr c))) (hE:B (n:Int)=some (.inr (.inl ()))):
 (iter B FU 0).bind (Sum.elim (fun _=>K) f)=if(List.range n).all p=true then K else f c:=by
 have key: ∀ (k i N:Nat),i+k=n->k<N->(iter B N (i:Int)).bind (Sum.elim (fun _=>K) f)=if(List.range' i k).all p=true then K else f c:=by
  intro k;induction k with
  | zero=>
    intro i N hi hN;obtain⟨N,rfl⟩: ∃ M,N=M+1:=⟨N - 1,by omega⟩;obtain rfl:i=n:=by omega
    rw [A8 hE];rfl
  | succ k ih=>
    intro i N hi hN;obtain⟨N,rfl⟩: ∃ M,N=M+1:=⟨N - 1,by omega⟩;have h:=hB i (by omega);have:=ih (i+1) N (by omega) (by omega);rw [List.range'_succ,List.all_cons];cases hp:p i
    ·simp_all [A8]
    ·rw [BZ (by rw [h,hp];rfl),Bool.true_and];exact this
 have:=key n 0 FU (by omega) (by unfold FU;omega);simp_all
theorem nU:((List.range 64).all fun a=>(List.range 64).all fun b=>ES (a:Int) (b:Int) 63==some (J9 .i64 a b==0))=true:=by kernel_rfl
theorem nV:((List.range 32).all fun a=>(List.range 32).all fun b=>ES (a:Int) (b:Int) 31==some (J9 .i64 a b==0))=true:=by kernel_rfl
theorem tq (a b:Int):ES a b 63=some (decide (0<=a/\a<=63/\0<=b/\b<=63)&&(J9 .i64 a b==0)):=by
 by_cases h:0<=a/\a<=63/\0<=b/\b<=63
 ·have t:=nU;rw [all_eq_true]at t;have t1:=t a.toNat (mem_range.2 (by omega));rw [all_eq_true]at t1;have t2:=t1 b.toNat (mem_range.2 (by omega));grind
 grind [ES]
theorem tt (a b:Int):ES a b 31=some (decide (0<=a/\a<=31/\0<=b/\b<=31)&&(J9 .i64 a b==0)):=by
 by_cases h:0<=a/\a<=31/\0<=b/\b<=31
 ·have t:=nV;rw [all_eq_true]at t;have t1:=t a.toNat (mem_range.2 (by omega));rw [all_eq_true]at t1;have t2:=t1 b.toNat (mem_range.2 (by omega));grind
 grind [ES]
def yQ (s:List UInt8) (i:Nat):Int:=(s.getD i 0).toNat
def okc (c:Int):Bool:=decide ((97<=c/\c<=122)\/(48<=c/\c<=57)\/c=45)
def dbl (s:List UInt8) (i:Nat):Bool:=decide (0<i/\yQ s i=45/\yQ s (i - 1)=45)
def aR (s:List UInt8):Bool:=decide (1<=s.length/\s.length<=32/\(97<=yQ s 0/\yQ s 0<=122)/\yQ s (s.length - 1) ≠ 45)&&(List.range s.length).all fun i=>okc (yQ s i)&& !dbl s i
theorem jV {s:List UInt8} {i:Nat} (h:i<s.length):acT s (i:Int)=some (yQ s i):=by unfold acT;rw [if_pos (by omega)];rfl
theorem Adc (c:Int):RX c=some (decide (97<=c/\c<=122)):=by unfold RX;grind
theorem nW (s:List UInt8):Uz s=some (aR s):=by
 unfold Uz;by_cases h:1<=s.length/\s.length<=32
 ·have h0:acT s 0=some (yQ s 0):=jV (i:=0) (by omega);have hl:acT s (Ab ((s.length:Int) - 1))=some (yQ s (s.length - 1)):=by grind [Ay,jV]
  have hk:=Afx (K:=some true) (f:=fun x=>some x) (c:=false) (p:=fun i=>okc (yQ s i)&& !dbl s i) (B:=fun v=>JX s v) s.length (by omega) (fun i hi=>by
   show JX s (i:Int)=_;unfold JX;have hp:0<i->acT s (Ab ((i:Int) - 1))=some (yQ s (i - 1)):=(by grind [Ay,jV]);rw [if_pos (by simp only [bz];omega),jV hi,N_ (by omega)];simp only [Option.bind_some,Adc,gd];grind [dbl,okc]) (by
   simp_all [JX])
  have hb1:(if decide ((s.length:Int)<1) then true else decide (32<(s.length:Int)))=false:=by grind
  simp only [Option.bind_some,hb1,h0,hl,gd,Adc,jn,fM,hk];unfold aR;grind
 grind [aR,gd]
theorem yR {β:Type} {p:Nat->Bool} {f:Nat->β} {B:Int->Option (Int⊕(Unit⊕β))} (n:Nat) (hn:n<9223372036854775807)
 (hB: ∀ i:Nat,i<n->B (i:Int)=some (if p i=true then .inr (.inr (f i))else .inl ((i:Int)+1))) (hE:B (n:Int)=some (.inr (.inl ()))):
 iter B FU 0=some (match (List.range n).find? p with | some i=> .inr (f i) | none=> .inl ()):=by
 have key: ∀ (k i N:Nat),i+k=n->k<N->iter B N (i:Int)=some (match (List.range' i k).find? p with | some i=> .inr (f i) | none=> .inl ()):=by
  intro k;induction k with
  | zero=>
    intro i N hi hN;obtain⟨N,rfl⟩: ∃ M,N=M+1:=⟨N - 1,by omega⟩;obtain rfl:i=n:=by omega
    rw [A8 hE];rfl
  | succ k ih=>
    intro i N hi hN;obtain⟨N,rfl⟩: ∃ M,N=M+1:=⟨N - 1,by omega⟩;have h:=hB i (by omega);rw [List.range'_succ,List.find?_cons];cases hp:p i
    ·rw [hp,if_neg (by simp)]at h;grind [BZ]
    ·rw [hp,if_pos rfl]at h;rw [A8 h]
 have:=key n 0 FU (by omega) (by unfold FU;omega);grind [List.range_eq_range']
def yS (l:List (List UInt8)) (s:List UInt8):Bool:=(List.range l.length).any fun i=>l.getD i default==s
def Afy:List (List UInt8):=[fo,Zi]
def Afz:List (List UInt8):=[RR,VJ,Zj,fq,ft,mu]
theorem tu (l:List (List UInt8)) (hl:l.length<9223372036854775807) (s:List UInt8): ∃ w,LW l s=some w/\decide (w<0)= !yS l s:=by
 unfold LW jn;rw [yR (p:=fun i=>l.getD i default==s) (f:=fun i=>(i:Int)) (B:=fun v=>Gs l s v) l.length hl (fun i hi=>by
  show Gs l s (i:Int)=_;unfold Gs;rw [if_pos (by simp only [bz];omega),nT hi,N_ (by omega)];grind) (by
  simp_all [Gs])]
 cases h:(List.range l.length).find? (fun i=>l.getD i default==s)with
 | none=>exact⟨-1,rfl,by grind [yS]⟩
 | some i=>exact⟨(i:Int),rfl,by grind [yS]⟩
def yT (s:List UInt8):Bool:=aR s&&(!yS Afy s&& !yS Afz s)
theorem Ma (s:List UInt8):Jb s=some (yT s):=by obtain⟨w1,h1,e1⟩:=tu Afy (by decide) s;obtain⟨w2,h2,e2⟩:=tu Afz (by decide) s;unfold Jb yT;simp only [Option.bind_some,nW,show JQ=some Afy from rfl,show Hz=some Afz from rfl,gd];grind
theorem ltN (a b:Int):decide (a<b)= !decide (b<=a):=by grind
theorem nnB (b:Bool):(!(!b))=b:=by grind
theorem az3 (a b:Bool):(a&&(a&&b))=(a&&b):=by grind
theorem oon (a b:Bool):(a||(!a&&b))=(a||b):=by grind
def jW (b:As):Bool:=(decide (0<=b.Kind)&&decide (b.Kind<=3))&&((decide (0<=b.N)&&decide (b.N<=1000000))&&(b.Kind != 0||b.N==0))
theorem tv (b:As):I9 b=some (jW b):=by unfold I9 jW;grind
theorem oan (a b:Bool):(!a|| !(a&&b))= !(a&&b):=by grind
def tw (f:Av):Bool:=(FM f).getD false
theorem OL (f:Av):FM f=some (tw f):=by
 have:T (FM f):=by unfold FM;simp only [Option.bind_some,tq,tt,Ma,tv,gdB,ifA,ifO,ifN,ifP,bT,bF,nnB,az3,oon,oan];grind
 grind [tw]
theorem Ab7 (a:Int):Pb a=some ((decide (1<=a)&&decide (a<=63))&&(J9 .i64 a 6==0)):=by simp_all [Pb]
theorem gdt {α:Type} [Inhabited α] (o:Option α):gd true o=o:=rfl
theorem gdf {α:Type} [Inhabited α] (o:Option α):gd false o=some default:=rfl
theorem Ts {α:Type} {a:α}:T (some a):=⟨_,rfl⟩
theorem Tb {α β:Type} {o:Option α} {f:α->Option β} (h:T o) (k: ∀ a,T (f a)):T (o.bind f):=by obtain⟨r,rfl⟩:=h;exact k r
theorem Tg {α:Type} [Inhabited α] {b:Bool} {o:Option α} (h:T o):T (gd b o):=by cases b;exact⟨_,rfl⟩;exact h
theorem Tj {α β:Type} {f:α->Option β} {g:(α->Option β)->Option β} (h: ∀ v,T (f v)) (k: ∀ j,(∀ v,T (j v))->T (g j)):T (jn f g):=k f h
theorem AfA {o:Option Bool} (h:T o):o=some (o.getD false):=by grind
theorem Ahh (m:BB):T (Lh m):=by
 obtain⟨k,n,p,s,f⟩:=m;by_cases hk:1<=k/\k<=14
 ·have:k=1\/k=2\/k=3\/k=4\/k=5\/k=6\/k=7\/k=8\/k=9\/k=10\/k=11\/k=12\/k=13\/k=14:=by omega
  clear hk;rcases this with rfl | rfl | rfl | rfl | rfl | rfl | rfl | rfl | rfl | rfl | rfl | rfl | rfl | rfl
  all_goals
   simp [T,jn,Lh,Pi,MT,MS,Ob,Ky,KA,Kz,IG,Ab7,OL,Ma,gdB,gdt,gdf,ifA,ifO,ifN,ifP,Option.getD_some]
 ·have h1:(decide (k<1)||decide (14<k))=true:=by simp;omega
  exact⟨false,by simp [jn,Lh,ifO,h1,gdf]⟩
theorem nX (a b:Int) (hb:b<=1000):W (KB a b) (fun _=>True):=by unfold KB jn;exact wMk (B:=fun m k=>Zy b m k) (g:=fun m=>Ab (Int.tdiv m 2)) b hb (fun m k=>rfl) (fun m=>⟨_,rfl,trivial⟩)
theorem tx:((List.range 6).all fun i=>okX 40 (IQ (i:Int)))=true:=by kernel_rfl
theorem yU:((List.range 5).all fun i=>okX 40 (Oc (i:Int)))=true:=by kernel_rfl
theorem yV:((List.range 17).all fun i=>okX 40 (Sm (i:Int)))=true:=by kernel_rfl
theorem AfB:((List.range 64).all fun i=>okX 60 (Dh (i:Int)))=true:=by kernel_rfl
theorem AfC:((List.range 32).all fun i=>okX 60 (L4 (i:Int)))=true:=by kernel_rfl
theorem yW (a:Int):W (Dh a) (fun r=>r.length<=60):=by
 by_cases h:0<=a/\a<=63
 ·exact AeQ AfB h.1 (by omega)
 ·have:(if decide (a<1) then true else decide (63<a))=true:=by grind
  unfold Dh;simp only [Option.bind_some];rw [if_pos this];exact⟨_,rfl,by simp⟩
theorem yX (a:Int):W (L4 a) (fun r=>r.length<=60):=by
 by_cases h:0<=a/\a<=31
 ·exact AeQ AfC h.1 (by omega)
 ·have:jb a=some false:=by unfold jb;simp;omega
  unfold L4 jn;rw [this];exact⟨_,rfl,by simp⟩
theorem rC {a:Int} (h0: -9223372036854775808<=a) (h1:a<=9223372036854775807):W (Du a) (fun r=>r.length<=21):=
 ⟨_,(show Du a=sU a from rfl).trans (mn h0 h1),iK h0 h1⟩
theorem vW {l:List (List UInt8)} {sep:List UInt8} (h:LB 60 l) (hs:sep.length<=10):W (R3 l sep) (fun r=>r.length<=37000):=by
 unfold R3 jn;have hl:=h.1;refine W.it (fun v=>0<=v.2/\v.2<=l.length/\(v.1.length:Int)<=610*v.2) (fun v=>((l.length:Int) - v.2).toNat) (by grind) (by grind) (fun v hv=>?_);obtain⟨s,i⟩:=v;dsimp only at hv ⊢;unfold VR jn;have J: ∀ s:List UInt8,(s.length:Int)<=610*i+10->i<l.length->W (MG l i s) (LQ (fun v=>0<=v.2/\v.2<=l.length/\(v.1.length:Int)<=610*v.2) (fun v=>((l.length:Int) - v.2).toNat) (s,i) (fun r=>W (VQ r) (fun r=>r.length<=37000))):=fun s hs hi=>by unfold MG;refine W.bd (W.idx (by omega)) (fun e he=>?_);have:=h.2 e he.1;refine Wa 100000 (by omega) (fun s' hs'=>?_);grind [Ay,W.nx]
 refine W.if (fun hi=>?_) (fun _=>W.ex ⟨_,rfl,by omega⟩)
 have hi:=of_decide_eq_true hi;refine W.if (fun _=>?_) (fun _=>?_)
 ·refine Wa 100000 (by omega) (fun s' hs'=>?_);have:=J s' (by omega) hi;exact this
 grind
theorem wIx {l:List (List UInt8)} {b:Nat} {i:Int} (h:0<=i/\i<l.length) (hb:(l.all fun w=>Nat.ble w.length b)=true):W (idx l i) (fun e=>e.length<=b):=
 (W.idx h).imp (by simp_all)
def yY (b:As):Prop:=0<=b.Kind/\b.Kind<=3/\0<=b.N/\b.N<=1000000
theorem aS {a:List UInt8} {b:As} (ha:a.length<=10) (hb:yY b):W (DW a b) (fun r=>r.length<=600):=by
 obtain⟨h1,h2,h3,h4⟩:=hb;unfold DW;refine W.if (fun _=>⟨_,rfl,by simp⟩) (fun hk=>?_)
 refine W.re (v:=[([]:List UInt8),fy,fA,sY]) rfl ?_;refine W.bd (wIx (b:=10) (by simp;omega) (by kernel_rfl)) (fun e he=>?_);refine Wa 100 (by omega) (fun s hs=>?_);refine W.bd (rC (by omega) (by omega)) (fun r hr=>?_);exact Wa 100 (by omega) (fun s hs=>⟨_,rfl,by omega⟩)
theorem fW {s:List UInt8} (h:aR s=true):s.length<=32:=by simp_all [aR]
theorem aT {b:As} (h:jW b=true):yY b:=by unfold jW at h;simp only [and_eq_true,decide_eq_true_eq]at h;exact⟨h.1.1,h.1.2,h.2.1.1,h.2.1.2⟩
structure FOK (f:Av):Prop where
 z:0<=f.O_/\f.O_<=5
 w:0<=f.Who/\f.Who<=2
 s:0<=f.Self/\f.Self<=2
 t:0<=f.Tap/\f.Tap<=2
 k:0<=f.Keys/\f.Keys<=131071
 y:0<=f.Types/\f.Types<=63/\0<=f.ad_/\f.ad_<=63
 c:0<=f.ah6/\f.ah6<=31/\0<=f.adq/\f.adq<=31
 b:f.Sub.length<=32
 p:yY f.Power
 q:yY f.acD
 v:yY f.Value
theorem Ab8 {f:Av} (h:tw f=true):FOK f:=by have e:=OL f;rw [h]at e;unfold FM at e;have e1: ∀ x:Int,(x != 0)= !(x==0):=fun x=>rfl;simp only [Option.bind_some,tq,tt,Ma,tv,gdB,ifA,ifO,ifN,ifP,bT,bF,nnB,az3,oon,aan,oan,Bool.not_or,Bool.not_and,Bool.and_assoc,e1]at e;simp only [injEq,and_eq_true,decide_eq_true_eq,Bool.not_eq_true',decide_eq_false_iff_not,Bool.or_eq_false_iff,Bool.not_eq_false']at e;refine⟨by omega,by omega,by omega,by omega,by omega,by omega,by omega,?_,aT (by grind),aT (by grind),aT (by grind)⟩;grind [yT,fW]
theorem AfD (f:Av):W (SP f) (fun r=>r.length<=37000):=by
 unfold SP jn;rw [OL];refine W.lt (fun b hb=>?_);refine W.if (fun _=>⟨_,rfl,by simp⟩) (fun h=>?_)
 have F:=Ab8 (f:=f) (by subst hb;simpa using h);clear h hb b;refine W.re (v:=[([]:List UInt8),VM,N9,LT,RV,RW]) rfl ?_;refine W.re (v:=[([]:List UInt8),fw,Zm]) rfl ?_;refine W.re (v:=[([]:List UInt8),mD,fx]) rfl ?_;refine W.re (v:=[([]:List UInt8),QO,MF]) rfl ?_;have z:=F.z;have w:=F.w;have s:=F.s;have t:=F.t;have b:=F.b;refine W.bd (wIx (b:=600) (by simp;omega) (by kernel_rfl)) (fun e he=>?_);refine wTs (k:=0) LB.nil he (fun l hl=>?_);clear he e;unfold VZ jn;refine W.bd (wIx (b:=600) (by simp;omega) (by kernel_rfl)) (fun e he=>?_);refine wTs hl he (fun l hl=>?_);clear he e;unfold SO jn;refine W.bd (wIx (b:=600) (by simp;omega) (by kernel_rfl)) (fun e he=>?_);refine wTs hl he (fun l hl=>?_);clear he e;unfold SN jn;refine wLp (B:=Lj f) 6 hl (fun _=>rfl) (fun i m l hi hm hl=>?_) (fun l hl=>?_)
 ·unfold Lj jn;rw [if_pos (by simp only [bz];omega)];refine W.bd (nX _ _ (by omega)) (fun r _=>?_);refine W.if (fun _=>?_) (fun _=>wRn (hl.le (by omega)))
  refine W.bd (vn tx hi) (fun x hx=>?_);exact wAp hl (by omega) (fun l hl=>wRn hl)
 unfold SM jn;refine wLp (B:=Li f) 6 hl (fun _=>rfl) (fun i m l hi hm hl=>?_) (fun l hl=>?_)
 ·unfold Li jn;rw [if_pos (by simp only [bz];omega)];refine W.bd (nX _ _ (by omega)) (fun r _=>?_);refine W.if (fun _=>?_) (fun _=>wRn (hl.le (by omega)))
  refine W.bd (vn tx hi) (fun x hx=>?_);refine Wa 100 (by have:LU.length=4:=rfl;omega) (fun x hx=>?_);exact wAp hl (by have:LU.length=4:=rfl;omega) (fun l hl=>wRn hl)
 unfold SL jn;refine wLp (B:=MX f) 5 hl (fun _=>rfl) (fun i m l hi hm hl=>?_) (fun l hl=>?_)
 ·unfold MX jn;rw [if_pos (by simp only [bz];omega)];refine W.bd (nX _ _ (by omega)) (fun r _=>?_);refine W.if (fun _=>?_) (fun _=>wRn (hl.le (by omega)))
  refine W.bd (vn yU hi) (fun x hx=>?_);exact wAp hl (by omega) (fun l hl=>wRn hl)
 unfold SK jn;refine wLp (B:=MW f) 5 hl (fun _=>rfl) (fun i m l hi hm hl=>?_) (fun l hl=>?_)
 ·unfold MW jn;rw [if_pos (by simp only [bz];omega)];refine W.bd (nX _ _ (by omega)) (fun r _=>?_);refine W.if (fun _=>?_) (fun _=>wRn (hl.le (by omega)))
  refine W.bd (vn yU hi) (fun x hx=>?_);refine Wa 100 (by have:LU.length=4:=rfl;omega) (fun x hx=>?_);exact wAp hl (by have:LU.length=4:=rfl;omega) (fun l hl=>wRn hl)
 unfold SJ jn;have J: ∀ l,LB 26 l->W (MV f [([]:List UInt8),QO,MF] l) (fun r=>r.length<=37000):=fun l hl=>by
  unfold MV jn;refine wLp (B:=MU f) 17 hl (fun _=>rfl) (fun i m l hi hm hl=>?_) (fun l hl=>?_)
  ·unfold MU jn;rw [if_pos (by simp only [bz];omega)];refine W.bd (nX _ _ (by omega)) (fun r _=>?_);refine W.if (fun _=>?_) (fun _=>wRn (hl.le (by omega)))
   refine W.bd (vn yV hi) (fun x hx=>?_);refine Wa 100 (by have:Um.length=5:=rfl;omega) (fun x hx=>?_);exact wAp hl (by have:Um.length=5:=rfl;omega) (fun l hl=>wRn hl)
  unfold SI jn;refine W.bd (wIx (b:=600) (by simp;omega) (by kernel_rfl)) (fun e he=>?_);refine wTs hl he (fun l hl=>?_);unfold SH jn;refine W.bd (aS (by decide) F.p) (fun e he=>?_);refine wTs hl he (fun l hl=>?_);unfold SG jn;refine W.bd (aS (by decide) F.q) (fun e he=>?_);refine wTs hl he (fun l hl=>?_);unfold SF jn;refine W.bd (aS (by decide) F.v) (fun e he=>?_);refine wTs hl he (fun l hl=>?_);unfold SE;refine W.if (fun _=>⟨_,rfl,by decide⟩) (fun _=>?_)
  exact W.bd (vW (hl.le (by omega)) (by decide)) (fun r hr=>⟨r,rfl,hr⟩)
 refine W.if (fun _=>?_) (fun _=>J _ (hl.le (by omega)))
 have:PJ.length=4:=rfl;refine Wa 100 (by omega) (fun x hx=>?_);grind [wAp]
def KU:Nat:=9223372036854775800
theorem FU7:FU=KU+1+1+1+1+1+1+1:=rfl
def fX (m n:Int):Bool:=if decide (n<0) then true else decide (m<n)
theorem Ahj {m n:Int}:fX m n=false↔0<=n/\n<=m:=by grind [fX]
def Ab9 (c:AS):Bool:=fX 9 c.Color.x0||(fX 9 c.Color.x1||(fX 9 c.Color.x2||(fX 9 c.Color.x3||fX 9 c.Color.x4)))
def isS (c:AS):Bool:= !Ab9 c&&(decide (0<=c.Generic)&&(decide (c.Generic<=99)&&(decide (0<=c.X)&&decide (c.X<=2))))
theorem rb (m e:Int):(if decide (e<(0:Int)) then true else decide (m<e))=fX m e:=rfl
theorem rIs (c:AS) (k:Int) (e:Int) (hk:k<5) (h:idx c.Color.l k=some e):DT c k=(if fX 9 e=true then some (.inr (.inr false))else some (.inl (Ab (k+1)))):=by unfold DT fX;rw [if_pos (by simpa using hk)];grind [gd]
theorem yZ (c:AS):DT c 0=(if fX 9 c.Color.x0=true then some (.inr (.inr false))else some (.inl 1)):=rIs c 0 _ (by omega) (by kernel_rfl)
theorem Aca (c:AS):DT c 1=(if fX 9 c.Color.x1=true then some (.inr (.inr false))else some (.inl 2)):=rIs c 1 _ (by omega) (by kernel_rfl)
theorem AfE (c:AS):DT c 2=(if fX 9 c.Color.x2=true then some (.inr (.inr false))else some (.inl 3)):=rIs c 2 _ (by omega) (by kernel_rfl)
theorem Ahl (c:AS):DT c 3=(if fX 9 c.Color.x3=true then some (.inr (.inr false))else some (.inl 4)):=rIs c 3 _ (by omega) (by kernel_rfl)
theorem Ai8 (c:AS):DT c 4=(if fX 9 c.Color.x4=true then some (.inr (.inr false))else some (.inl 5)):=rIs c 4 _ (by omega) (by kernel_rfl)
theorem Ai9 (c:AS):DT c 5=some (.inr (.inl ())):=by kernel_rfl
theorem y6 (c:AS):iter (fun(v:Int)=>DT c v) FU 0=some (if Ab9 c=true then .inr false else .inl ()):=by
 rw [FU7];unfold Ab9;cases h0:fX 9 c.Color.x0
 ·cases h1:fX 9 c.Color.x1
  ·cases h2:fX 9 c.Color.x2
   ·cases h3:fX 9 c.Color.x3
    ·cases h4:fX 9 c.Color.x4
     all_goals simp_all [iter,yZ,Aca,AfE,Ahl,Ai8,Ai9]
    simp_all [iter,yZ,Aca,AfE,Ahl]
   simp_all [iter,yZ,Aca,AfE]
  grind [iter,yZ,Aca]
 ·simp [iter,yZ,h0]
theorem SX (c:AS):Uo c=some (isS c):=by grind [Uo,isS,jn,y6,fD]
structure Ok (c:AS):Prop where
 c0:0<=c.Color.x0/\c.Color.x0<=9
 c1:0<=c.Color.x1/\c.Color.x1<=9
 c2:0<=c.Color.x2/\c.Color.x2<=9
 c3:0<=c.Color.x3/\c.Color.x3<=9
 c4:0<=c.Color.x4/\c.Color.x4<=9
 g:0<=c.Generic/\c.Generic<=99
 x:0<=c.X/\c.X<=2
theorem AfF {c:AS} (h:isS c=true):Ok c:=by unfold isS at h;simp only [and_eq_true,Bool.not_eq_true',decide_eq_true_eq]at h;obtain⟨h1,h2,h3,h4,h5⟩:=h;unfold Ab9 at h1;simp only [Bool.or_eq_false_iff,Ahj]at h1;obtain⟨a,b,c',d,e⟩:=h1;exact⟨a,b,c',d,e,⟨h2,h3⟩,⟨h4,h5⟩⟩
theorem y7 (n:Int):Du n=sU n:=by kernel_rfl
theorem rD {n:Int} (h0: -9223372036854775808<=n) (h1:n<=9223372036854775807):Du n=some (Lib.itoa n):=by rw [y7,mn h0 h1]
def nY (n:Int) (b:UInt8):List UInt8:=List.replicate n.toNat b
theorem jX (n:Int) (b:UInt8):(nY n b).length =n.toNat:=by simp [nY]
def gtx (g:Int):List UInt8:=if 0<g then Lib.itoa g else []
def y8 (c:AS):List UInt8:=nY c.X 88++gtx c.Generic
def tx1 (c:AS):List UInt8:=y8 c++nY c.Color.x0 65
def tx2 (c:AS):List UInt8:=tx1 c++nY c.Color.x1 67
def tx3 (c:AS):List UInt8:=tx2 c++nY c.Color.x2 74
def tx4 (c:AS):List UInt8:=tx3 c++nY c.Color.x3 82
def tx5 (c:AS):List UInt8:=tx4 c++nY c.Color.x4 69
theorem Acb {g:Int} (h:0<=g/\g<=99):(gtx g).length <=21:=by grind [gtx,iK]
theorem Acc {c:AS} (h:Ok c):(y8 c).length <=23/\(tx1 c).length <=32/\(tx2 c).length <=41/\(tx3 c).length <=50/\(tx4 c).length <=59/\(tx5 c).length <=68:=by
 have a:=h.c0;have b:=h.c1;have d:=h.c2;have e:=h.c3;have f:=h.c4;have g:=h.g;have x:=h.x;have hg:=Acb g;have h0:(y8 c).length <=23:=by grind [y8,jX]
 grind [tx1,jX,tx2,tx3,tx4,tx5]
def zC':AS:=⟨0,0,⟨0,0,0,0,0⟩⟩
def y9 (c:AS):List UInt8:=if isS c=false then [] else if c=zC' then yA else tx5 c
theorem nZ {B:(List UInt8)×Int->Option (((List UInt8)×Int)⊕(List UInt8))} {s:List UInt8} {n:Int} {b:UInt8} (hn:0<=n/\n<=1000)
 (hgo: ∀ (t:List UInt8) (k:Int),t.length<=s.length+1000->0<=k->k<n->B (t,k)=some (.inl (t++[b],k+1))) (aDN: ∀ t,B (t,n)=some (.inr t)):
 iter B FU (s,0)=some (s++nY n b):=by
 refine Ch (fun i=>(s++List.replicate i b,(i:Int))) n.toNat (by omega) (fun i hi=>?_) ?_ (by simp)
 ·rw [hgo _ _ (by simp;omega) (by omega) (by omega),List.append_assoc, <-List.replicate_succ'];rfl
 ·rw [show ((n.toNat:Nat):Int)=n by omega];exact aDN _
theorem za {c:AS} {s:List UInt8} {k e:Int} {b:UInt8} (h:idx c.Color.l k=some e) (h2:gL Un k (Ab (k+1))=some [b]) (he:0<=e/\e<=9) (hs:s.length<=1000):
 iter (fun(v:(List UInt8)×Int)=>GC c k v.1 v.2) FU (s,0)=some (s++nY e b):=by
 refine nZ (by omega) (fun t j ht h0 h1=>?_) (fun t=>?_)
 ·show GC c k t j=_;unfold GC;rw [h];simp only [Option.bind_some];rw [if_pos (by simpa using h1),h2];grind [LS,maxLen,Ay]
 simp_all [GC]
theorem rtB {c:AS} {s:List UInt8} {k e:Int} {b:UInt8} (hk:k<5) (h:idx c.Color.l k=some e) (h2:gL Un k (Ab (k+1))=some [b]) (he:0<=e/\e<=9) (hs:s.length<=1000):
 IM c s k=some (.inl (s++nY e b,Ab (k+1))):=by
 unfold IM jn;rw [if_pos (by simpa using hk),za h h2 he hs];rfl
theorem Acd {c:AS} (h:Ok c):iter (fun(v:(List UInt8)×Int)=>IM c v.1 v.2) FU (y8 c,0)=some (tx5 c):=by obtain⟨l0,l1,l2,l3,l4,l5⟩:=Acc h;rw [FU7];rw [BZ (s':=(tx1 c,1)) (rtB (by omega) (by kernel_rfl) (by kernel_rfl) h.c0 (by grind))];rw [BZ (s':=(tx2 c,2)) (rtB (by omega) (by kernel_rfl) (by kernel_rfl) h.c1 (by grind))];rw [BZ (s':=(tx3 c,3)) (rtB (by omega) (by kernel_rfl) (by kernel_rfl) h.c2 (by grind))];rw [BZ (s':=(tx4 c,4)) (rtB (by omega) (by kernel_rfl) (by kernel_rfl) h.c3 (by grind))];rw [BZ (s':=(tx5 c,5)) (rtB (by omega) (by kernel_rfl) (by kernel_rfl) h.c4 (by grind))];exact A8 (by kernel_rfl)
theorem Ace {c:AS} (h:Ok c):iter (fun(v:(List UInt8)×Int)=>GD c v.1 v.2) FU ([],0)=some (nY c.X 88):=by
 have hx:=h.x;refine(nZ (s:=[]) (n:=c.X) (b:=88) (by omega) (fun t j ht h0 h1=>?_) (fun t=>?_)).trans (by simp)
 ·show GD c t j=_;unfold GD;rw [if_pos (by simpa using h1),LS (by simp at ht;simp [maxLen,Ada];omega),Ay (by omega) (by omega)];rfl
 simp_all [GD]
theorem jY (n:Nat):Lib.decDigits n ≠ []:=by rw [Lib.decDigits];split<;>simp
theorem Acf (n:Int):Lib.itoa n ≠ []:=by grind [Lib.itoa,jY]
theorem UN {n:Int} {b:UInt8} (h0:0<=n):nY n b=[]↔n=0:=by grind [nY,List.replicate_eq_nil_iff]
theorem Acg {c:AS} (h:Ok c):tx5 c=[]↔c=zC':=by
 have hg:gtx c.Generic=[]↔c.Generic=0:=by
  have:=h.g;unfold gtx;by_cases h0:0<c.Generic
  ·rw [if_pos h0];grind [Acf]
  grind
 unfold tx5 tx4 tx3 tx2 tx1 y8;simp only [List.append_eq_nil_iff,UN h.x.1,UN h.c0.1,UN h.c1.1,UN h.c2.1,UN h.c3.1,UN h.c4.1,hg];obtain⟨g,x,⟨a,b,d,e,f⟩⟩:=c;grind [zC']
theorem vX (c:AS):Sy c=some (y9 c):=by
 unfold Sy y9 jn;rw [SX];cases hs:isS c
 ·rfl
 ·have h:=AfF hs;simp only [Option.bind_some,Bool.not_true,Bool.false_eq_true,if_false,Bool.true_eq_false,Ace h];have hg:=h.g;have fin:Oy c (y8 c)=some (if c=zC' then yA else tx5 c):=by grind [Oy,jn,Acd,VX,Acg]
  show Oz c (nY c.X 88)=_;simp only [Oz,jn];by_cases h0:0<c.Generic
  ·have e:y8 c=nY c.X 88++Lib.itoa c.Generic:=by unfold y8 gtx;grind
   rw [if_pos (by simp;omega),rD (by omega) (by omega)];simp only [Option.bind_some];rw [LS (by rw [jX];have:=iK (n:=c.Generic) (by omega) (by omega);have:=h.x;simp [maxLen];omega), <-e];grind
  ·have e:y8 c=nY c.X 88:=by simp_all [y8,gtx,if_neg]
   grind
def Adf (a:A6 Int):AS:=⟨a.x0,0,⟨a.x1,a.x2,a.x3,a.x4,a.x5⟩⟩
theorem Ach (a:A6 Int):ZC a=some (Adf a):=by kernel_rfl
theorem Aci (a:A6 Int):IR a=some (y9 (Adf a)):=by grind [IR,Ach,vX]
def jZ (m:BB):Bool:=(Lh m).getD false
theorem zb (m:BB):Lh m=some (jZ m):=AfA (Ahh m)
theorem AfH {m:BB} (h:jZ m=true):(m.Kind=4\/m.Kind=5->m.Sub.length<=32)/\(m.Kind=12\/m.Kind=13-> -99<=m.N/\m.N<=99/\ -99<=m.M/\m.M<=99):=by
 have e:=zb m;rw [h]at e;obtain⟨k,n,p,s,f⟩:=m;refine⟨?_,?_⟩
 ·dsimp only;rintro(rfl | rfl)
  all_goals
   simp [jn,Lh,Pi,MT,MS,Ob,Ky,KA,Kz,IG,Ma,gdB,gdt,gdf,ifA,ifO,ifN,ifP]at e;simp_all [yT,fW]
 ·dsimp only;rintro(rfl | rfl)
  all_goals
   simp [jn,Lh,Pi,MT,MS,Ob,Ky,KA,Kz,IG,Ma,gdB,gdt,gdf,ifA,ifO,ifN,ifP]at e;omega
def Tx (b:Bool) (n:Nat) (r:List UInt8):Prop:=r.length<=n/\(r==[])= !b
theorem Tx.mk {n:Nat} {r:List UInt8} (h:r.length<=n) (h0:0<r.length):Tx true n r:=⟨h,by cases r<;>simp at *⟩
theorem zc (a:Int):W (Ox a) (fun r=>r.length<=2000):=by
 unfold Ox jn;have: ∃ b,Oa a=some b:=⟨_,by unfold Oa;rfl⟩;obtain⟨b,hb⟩:=this;rw [hb];refine W.lt (fun b hb=>?_);refine W.if (fun _=>⟨_,rfl,by simp⟩) (fun h=>?_)
 refine W.it (fun(v:Int×List UInt8×Int)=>0<=v.2.2/\v.2.2<=17/\(v.2.1.length:Int)<=41*v.2.2) (fun v=>((17:Int) - v.2.2).toNat) (by grind) (by grind) (fun v hv=>?_);obtain⟨k,s,i⟩:=v;obtain⟨h1,h2,h3⟩:=hv;dsimp only at h1 h2 h3 ⊢;unfold Sx jn;have w:=Ay (x:=i+1) (by omega) (by omega);have J: ∀ s:List UInt8,(s.length:Int)<=41*i+1->i<17->W (MO i (fun v=>IL k i v) s) (LQ (fun(v:Int×List UInt8×Int)=>0<=v.2.2/\v.2.2<=17/\(v.2.1.length:Int)<=41*v.2.2) (fun v=>((17:Int) - v.2.2).toNat) (k,s,i) (fun r=>W (Ow r) (fun r=>r.length<=2000))):=fun s hs hi=>by unfold MO;refine W.bd (AeQ yV h1 (by omega)) (fun e he=>?_);refine Wa 100000 (by omega) (fun s' hs'=>?_);grind [IL,W.nx]
 refine W.if (fun hi=>?_) (fun _=>W.ex ?_)
 ·have hi:=of_decide_eq_true hi;refine W.if (fun _=>?_) (by grind [IL,W.nx])
  refine W.if (fun _=>?_) (by grind)
  have:Xc.length=1:=rfl;exact Wa 100000 (by omega) (fun s' hs'=>J s' (by omega) hi)
 ·unfold Ow;exact W.if (fun _=>⟨_,rfl,by decide⟩) (fun _=>⟨_,rfl,by omega⟩)
theorem Ahr (m:BB):W (SS m) (Tx (jZ m) 200000):=by
 unfold SS;rw [zb];refine W.lt (fun b hb=>?_);refine W.if (fun h=>⟨_,rfl,by rw [<-hb];simp at h;subst h;exact⟨by simp,rfl⟩⟩) (fun h=>?_)
 obtain⟨h1,h2⟩:=AfH (m:=m) (by subst hb;simpa using h);rw [<-hb,show b=true by simpa using h];have l1:Zk.length=6:=rfl;have l2:VK.length=7:=rfl;have l3:mw.length=4:=rfl;have l4:fv.length=5:=rfl;have l5:VL.length=7:=rfl;have l6:RS.length=8:=rfl;have l7:Zl.length=6:=rfl;have l8:Kw.length=6:=rfl;have l9:PM.length=9:=rfl;have l10:sZ.length=1:=rfl;have l11:ta.length=3:=rfl;have l12:mE.length=4:=rfl;have l13:Xd.length=1:=rfl;refine W.if (fun _=>⟨_,rfl,Tx.mk (by decide) (by decide)⟩) (fun _=>?_)
 refine W.if (fun _=>W.bd (yW _) (fun r hr=>Wa 1000 (by omega) (fun s hs=>⟨_,rfl,Tx.mk (by omega) (by omega)⟩))) (fun _=>?_)
 refine W.if (fun _=>W.bd (yW _) (fun r hr=>Wa 1000 (by omega) (fun s hs=>⟨_,rfl,Tx.mk (by omega) (by omega)⟩))) (fun _=>?_)
 refine W.if (fun k=>Wa 1000 (by grind) (fun s hs=>⟨_,rfl,Tx.mk (by grind) (by omega)⟩)) (fun _=>?_)
 refine W.if (fun k=>Wa 1000 (by grind) (fun s hs=>⟨_,rfl,Tx.mk (by grind) (by omega)⟩)) (fun _=>?_)
 refine W.if (fun _=>W.bd (yX _) (fun r hr=>Wa 1000 (by omega) (fun s hs=>⟨_,rfl,Tx.mk (by omega) (by omega)⟩))) (fun _=>?_)
 refine W.if (fun _=>W.bd (yX _) (fun r hr=>Wa 1000 (by omega) (fun s hs=>⟨_,rfl,Tx.mk (by omega) (by omega)⟩))) (fun _=>?_)
 refine W.if (fun _=>W.bd (zc _) (fun r hr=>Wa 100000 (by omega) (fun s hs=>⟨_,rfl,Tx.mk (by omega) (by omega)⟩))) (fun _=>?_)
 refine W.if (fun _=>W.bd (zc _) (fun r hr=>Wa 100000 (by omega) (fun s hs=>⟨_,rfl,Tx.mk (by omega) (by omega)⟩))) (fun _=>?_)
 refine W.if (fun _=>⟨_,rfl,Tx.mk (by decide) (by decide)⟩) (fun _=>?_)
 refine W.if (fun _=>W.bd (AfD _) (fun r hr=>Wa 1000000 (by omega) (fun s hs=>Wa 1000000 (by omega) (fun s hs=>⟨_,rfl,Tx.mk (by omega) (by omega)⟩)))) (fun _=>?_)
 have N: ∀ (p:List UInt8),p.length<=10->m.Kind=12\/m.Kind=13->W ((Du m.N).bind fun r32=>(cat p r32).bind fun s33=>(cat s33 Xd).bind fun s34=>(Du m.M).bind fun r35=>(cat s34 r35).bind fun s36=>some s36) (Tx true 200000):=fun p hp hk=>by have q:=h2 hk;refine W.bd (rC (by omega) (by omega)) (fun r hr=>Wa 1000 (by omega) (fun s hs=>Wa 1000 (by omega) (fun s hs=>?_)));exact W.bd (rC (by omega) (by omega)) (fun r hr=>Wa 1000 (by omega) (fun s hs=>⟨_,rfl,Tx.mk (by omega) (by omega)⟩))
 refine W.if (by grind) (fun _=>?_)
 refine W.if (by grind) (fun _=>⟨_,rfl,Tx.mk (by decide) (by decide)⟩)
def Adg (l:List BB):Bool:=decide (1<=l.length/\l.length<=6)&&l.all jZ
theorem AfI {α:Type} [Inhabited α] {p:α->Bool} {l:List α} (h: ∀ j:Int,0<=j->j<l.length->p (l.getD j.toNat default)=true):l.all p=true:=by rw [all_eq_true];intro x hx;obtain⟨i,hi,rfl⟩:=List.mem_iff_getElem.1 hx;grind [Int.toNat_natCast]
theorem nz {r:List UInt8} (h:0<r.length):(r==[])=false:=by grind
theorem aU (l:List BB):W (Db l) (fun r=>(r==[])= !Adg l):=by
 unfold Db Adg jn;refine W.lt (fun b hb=>?_);refine W.if (fun h=>⟨_,rfl,?_⟩) (fun h=>?_)
 ·grind
 subst hb;simp only [bz]at h;rw [decide_eq_true (p:=1<=l.length/\l.length<=6) (by omega),Bool.true_and];refine W.it (fun(v:List UInt8×Int)=>0<=v.2/\v.2<=l.length/\(v.1.length:Int)<=200010*v.2/\(0<v.2->0<v.1.length)/\ ∀ j:Int,0<=j->j<v.2->jZ (l.getD j.toNat default)=true) (fun v=>((l.length:Int) - v.2).toNat)
  (by grind) (by grind) (fun v hv=>?_)
 obtain⟨t,i⟩:=v;obtain⟨h1,h2,h3,h4,h5⟩:=hv;dsimp only at h1 h2 h3 h4 h5 ⊢;unfold L8 jn;have w:=Ay (x:=i+1) (by omega) (by omega);refine W.if (fun hi=>?_) (fun hi=>W.ex ?_)
 ·have hi:=of_decide_eq_true hi;refine W.bd (W.idx (by omega)) (fun e he=>?_);rw [zb];refine W.lt (fun b hb=>?_);refine W.if (fun k=>W.ex ⟨_,rfl,?_⟩) (fun k=>?_)
  ·grind
  have hm:jZ e=true:=by grind
  have J: ∀ s:List UInt8,(s.length:Int)<=200010*i+2->W (Hv l i s) (LQ (fun(v:List UInt8×Int)=>0<=v.2/\v.2<=l.length/\(v.1.length:Int)<=200010*v.2/\(0<v.2->0<v.1.length)/\ ∀ j:Int,0<=j->j<v.2->jZ (l.getD j.toNat default)=true) (fun v=>((l.length:Int) - v.2).toNat) (t,i)
   (fun r=>W (Sum.elim (fun o0=>Nh o0) (fun o1=>some o1) r) (fun r=>(r==[])= !l.all jZ))):=fun s hs=>by
   unfold Hv;refine W.bd (W.idx (by omega)) (fun e' he'=>?_);obtain rfl:e'=e:=by grind
   refine W.bd (Ahr e') (fun r hr=>?_);rw [hm]at hr;have hr1:=hr.1;have hr2:0<r.length:=by have:=hr.2;grind
   refine Wa 10000000 (by omega) (fun s' hs'=>?_);refine W.nx ⟨by dsimp only;omega,by dsimp only;omega,by dsimp only;omega,fun _=>by dsimp only;omega,fun j j1 j2=>?_⟩ (by dsimp only;omega);dsimp only at j2;by_cases q:j<i
   ·exact h5 j j1 q
   ·obtain rfl:j=i:=by omega
    rw [<-he.2.1];exact hm
  refine W.if (fun _=>?_) (by grind)
  have:fu.length=2:=rfl;exact Wa 10000000 (by omega) (by grind)
 ·have hi:=of_decide_eq_false hi;obtain rfl:i=l.length:=by omega
  rw [AfI (p:=jZ) h5];exact⟨_,rfl,nz (h4 (by omega))⟩
def tz (s:C8):Bool:=if s.Object=false then(if s.abO then s.Filter==(⟨(0:Int),(0:Int),(0:Int),(0:Int),(0:Int),(0:Int),(0:Int),[],(0:Int),(0:Int),(⟨(0:Int),(0:Int)⟩:As),(⟨(0:Int),(0:Int)⟩:As),(⟨(0:Int),(0:Int)⟩:As)⟩:Av)else false)else(if tw s.Filter=true then if(if(s.Filter.O_==0)=true then true else s.Filter.O_==3) then true else s.Filter.O_==5 else false)
theorem AfJ (s:C8):SQ s=some (tz s):=by unfold SQ tz;simp only [Option.bind_some,OL];grind
def zd (p:CC):Bool:=isS p.aqG&&(p.aqG.X==0&&(decide (0<=p.afD)&&decide (p.afD<=99)))
theorem Acj (p:CC):Pf p=some (zd p):=by grind [Pf,zd,SX]
def cnB (c:Int):Bool:=decide (0<=c)&&decide (c<=2)
theorem ze (c:Int): ∃ w,Oh c=some w/\(w==[])= !cnB c/\(w != [])=cnB c:=by
 unfold cnB;by_cases h:0<=c/\c<=2
 ·have:c=0\/c=1\/c=2:=by omega
  rcases this with rfl | rfl | rfl<;>exact⟨_,rfl,rfl,rfl⟩
 ·have e2:(decide (0<=c)&&decide (c<=2))=false:=by grind
  unfold Oh;rw [if_neg (by simp;omega),if_neg (by simp;omega),if_neg (by simp;omega),e2];grind
theorem Ahs (m:CR):T (jR m):=by
 obtain⟨w,h1, -⟩:=ze m.R_;unfold jR fQ;simp only [OL,h1]
 repeat' (first | with_reducible exact Ts | simp only [*] | refine Tj (fun _=>?_) (fun _ _=>?_) | refine yr ?_ ?_ | refine Tb ?_ (fun _=>?_) | refine Tg ?_)
theorem Aht (m:Px) (s:Int):T (jQ m s):=by
 unfold jQ fP fO MH;simp only [OL]
 repeat' (first | with_reducible exact Ts | simp only [*] | refine Tj (fun _=>?_) (fun _ _=>?_) | refine yr ?_ ?_ | simp_all | refine Tg ?_)
theorem Ahu (m:Bz):T (jP m):=by
 have hw:T (Od m.aoQ):=by
  unfold Od
  repeat' (first | with_reducible exact Ts | simp only [*] | refine Tj (fun _=>?_) (fun _ _=>?_) | refine yr ?_ ?_ | refine Tb ?_ (fun _=>?_) | refine Tg ?_)
 unfold jP ay JS K5 JS;simp only [OL]
 repeat' (first | with_reducible exact Ts | simp only [*] | refine Tj (fun _=>?_) (fun _ _=>?_) | refine yr ?_ ?_ | refine Tb ?_ (fun _=>?_) | refine Tg ?_)
theorem Ahv (m:Bn):T (jT m):=by
 have hp:T (Pc m):=by
  unfold Pc
  repeat' (first | with_reducible exact Ts | simp only [*] | refine Tj (fun _=>?_) (fun _ _=>?_) | refine yr ?_ ?_ | refine Tb ?_ (fun _=>?_) | refine Tg ?_)
 have hm:T (Pj m):=by
  unfold Pj Jc;simp only [OL]
  repeat' (first | with_reducible exact Ts | simp only [*] | refine Tj (fun _=>?_) (fun _ _=>?_) | refine yr ?_ ?_ | refine Tb ?_ (fun _=>?_) | refine Tg ?_)
 unfold jT aH Jc;simp only [OL]
 repeat' (first | with_reducible exact Ts | simp only [*] | refine Tj (fun _=>?_) (fun _ _=>?_) | refine yr ?_ ?_ | refine Tb ?_ (fun _=>?_) | refine Tg ?_)
theorem vY {α:Type} [Inhabited α] (l:List α) (q:α->Bool):((List.range l.length).all fun i=>q (l.getD i default))=l.all q:=by
 rw [Bool.eq_iff_iff,all_eq_true,all_eq_true];constructor
 ·intro h x hx;obtain⟨i,hi,rfl⟩:=List.mem_iff_getElem.1 hx;simp_all
 grind
theorem AfK {α β γ:Type} [Inhabited α] {l:List α} {q:α->Bool} {c:β} {B:Int->Option (Int⊕(Unit⊕β))} {K:Option γ} {f:β->Option γ} (hn:l.length<9223372036854775807)
 (hB: ∀ (i:Nat) (h:i<l.length),B (i:Int)=some (if q l[i]=true then .inl ((i:Int)+1)else .inr (.inr c))) (hE:B (l.length:Int)=some (.inr (.inl ()))):
 (iter B FU 0).bind (Sum.elim (fun _=>K) f)=if l.all q=true then K else f c:=by
 rw [Afx (p:=fun i=>q (l.getD i default)) l.length hn (fun i hi=>by rw [hB i hi,sX hi]) hE,vY]
theorem Ahw {β:Type} {b:Bool} {c:β} {i:Nat} (hi:i<9223372036854775807):(if !b then some (.inr (.inr c))else some (.inl (Ab ((i:Int)+1))):Option (Int⊕(Unit⊕β)))=some (if b then .inl ((i:Int)+1)else .inr (.inr c)):=by grind [Ay]
def AfL (a:AF) (n:Int):Bool:=(UL a n).getD false
theorem Ahx (k c:Int):T (DM k c):=by
 have hu:W (R6 k) (fun u=>u.length<=3):=by
  have d15: ∀ v,W (R5 v) (fun u=>u.length<=3):=fun v=>W.if (fun _=>W.rt (by decide)) (fun _=>W.rt (by decide))
  have d6: ∀ v,W (Of k v) (fun u=>u.length<=3):=fun v=>by
   unfold Of jn
   repeat' (first | exact d15 _ | exact W.rt (by decide) | refine W.if (fun _=>?_) (fun _=>?_))
  have d2: ∀ v,W (Og k v) (fun u=>u.length<=3):=fun v=>by
   unfold Og jn
   repeat' (first | exact d6 _ | exact W.rt (by decide) | refine W.if (fun _=>?_) (fun _=>?_))
  unfold R6 jn;grind
 obtain⟨u,h,hl⟩:=hu;have hw:W (DM k c) (fun _=>True):=by
  unfold DM jn;rw [h];simp only [Option.bind_some];refine W.it (fun v:Int=>0<=v/\v<=u.length) (fun v=>((u.length:Int) - v).toNat) (by omega) (by omega) (fun v hv=>?_);unfold VV;refine W.if (fun hi=>W.bd (W.acT (by grind)) (fun e he=>W.if (fun _=>W.ex ⟨_,rfl,trivial⟩) (fun _=>?_))) (fun _=>W.ex ⟨_,rfl,trivial⟩)
  simp only [decide_eq_true_eq]at hi;grind [Ay,W.nx]
 exact⟨_,hw.choose_spec.1⟩
theorem vZ:((List.range 27).all fun i=>(Oe (i:Int)).isSome)=true:=by kernel_rfl
theorem Ahy (a:AF) (n:Int):T (UL a n):=by
 have hw:T (Oe a.Op):=by
  by_cases hk:0<=a.Op/\a.Op<=26
  ·have t:=all_eq_true.1 vZ a.Op.toNat (mem_range.2 (by omega));grind [Option.isSome_iff_exists]
  ·refine⟨[],?_⟩;unfold Oe;grind
 obtain⟨c,h1, -⟩:=ze a.R_;have hm:T (Db a.aai):=⟨_,(aU a.aai).choose_spec.1⟩;have hu:=Ahx;have h14:=Ahs;have h16:=Aht;unfold UL fR aO aM aL aK aJ QX P3 aI;simp only [OL,h1,nW,Aci]
 repeat' (first | with_reducible exact Ts | simp only [*] | refine Tj (fun _=>?_) (fun _ _=>?_) | refine yr ?_ ?_ | refine Tb ?_ (fun _=>?_) | refine Tg ?_)
theorem Ahz (a:AF) (n:Int):UL a n=some (AfL a n):=AfA (Ahy a n)
def zf (l:List C8):Bool:=l.all tz
def Adh (l:List AF) (n:Int):Bool:=l.all fun e=>AfL e n
def abB (a:AG):Bool:=(M4 a).getD false
theorem Ack {l:List C8} (h:l.length<9223372036854775807):Pk l=some (zf l&&decide (l.length<=4)):=by
 simp only [Pk,jn]
 rw [AfK (l:=l) (q:=tz) (B:=fun v=>GK l v) h (fun i h'=>by
     show GK l (i:Int)=_;unfold GK;rw [if_pos (by simpa using h'),Al h'];simp only [Option.bind_some,AfJ];exact Ahw (by omega)) (by
     simp_all [GK])]
 grind [ST,zf,decide]
theorem AfM {l:List AF} {n:Int} (h:l.length<9223372036854775807):KL l n=some (Adh l n&&decide (1<=l.length/\l.length<=8)):=by
 simp only [KL,jn]
 rw [AfK (l:=l) (q:=fun e=>AfL e n) (B:=fun v=>EG l n v) h (fun i h'=>by
     show EG l n (i:Int)=_;unfold EG;rw [if_pos (by simpa using h'),Al h'];simp only [Option.bind_some,Ahz];exact Ahw (by omega)) (by
     simp_all [EG])]
 grind [OG,Adh,decide]
def Acl (a:AG):Prop:=a.acg.length<9223372036854775807/\a.w_.length<9223372036854775807
theorem AhA {a:AG} (hl:Acl a):T (M4 a):=by
 have hm:T (Db a.aai):=⟨_,(aU a.aai).choose_spec.1⟩;have h18:=Ahu;have h19:=Ahv;unfold M4 fV fU fT fS;simp only [OL,Acj,Ack hl.1,AfM hl.2]
 repeat' (first | with_reducible exact Ts | simp only [*] | refine Tj (fun _=>?_) (fun _ _=>?_) | refine yr ?_ ?_ | refine Tb ?_ (fun _=>?_) | refine Tg ?_)
theorem zg {a:AG} (hl:Acl a):M4 a=some (abB a):=AfA (AhA hl)
def AfN (l:List (List UInt8)) (i:Nat):Bool:=yT (l.getD i default)&&(decide (i=0)||Op.bytesLess (l.getD (i - 1) default) (l.getD i default))
def aV (t:Int):Bool:=(J9 .i64 t 6==0)||(t==2||t==4)
def n7 (a:JN):Bool:=decide (0<=a.agi/\a.agi<=3/\1<=a.Types/\a.Types<=63/\a.afB.length<=4)&&(aV a.Types&&(List.range a.afB.length).all (AfN a.afB))
theorem AhB {α:Type} [Inhabited α] {l:List α} {i:Nat} (h:i<l.length) (h0:0<i) (q:i<9223372036854775807):idx l (Ab ((i:Int) - 1))=some (l.getD (i - 1) default):=by grind [Ay,nT]
def Adi (t:Int):Bool:=match Kx t 1,Kx t 2 with
 | some x,some y=>((t==2||t==4)||(!x&& !y))==aV t
 | _,_=>false
theorem AfO:((List.range 64).all fun t=>Adi (t:Int))=true:=by kernel_rfl
theorem Acm {t:Int} (h:1<=t/\t<=63): ∃ x y,Kx t 1=some x/\Kx t 2=some y/\((t==2||t==4)||(!x&& !y))=aV t:=by have:=all_eq_true.1 AfO t.toNat (mem_range.2 (by omega));grind [Adi]
theorem zh (a:JN):ac a=some (n7 a):=by
 unfold n7;by_cases h:a.agi<0\/3<a.agi\/a.Types<1\/63<a.Types\/4<a.afB.length
 ·simp only [ac,jn,Option.bind_some];grind
 ·obtain⟨x,y,hx,hy,hc⟩:=Acm (t:=a.Types) (by omega);have hk:=Afx (K:=UF a) (f:=fun x=>some x) (c:=false) (p:=AfN a.afB) (B:=fun v=>J1 a v) a.afB.length (by omega) (fun i hi=>by
   show J1 a (i:Int)=_;unfold J1 AfN;rw [if_pos (by simp only [bz];omega),nT hi,N_ (by omega)];simp only [Option.bind_some,Ma];by_cases h0:0<i
   ·grind [AhB,Uk]
   ·obtain rfl:i=0:=by omega
    grind [gd]) (by
   simp_all [J1])
  simp only [ac,jn,Option.bind_some];rw [if_neg (by simp only [bz];omega),hk,decide_eq_true (by omega),Bool.true_and, <-hc];unfold UF;simp only [hx,hy,Uk,Option.bind_some];grind
def AhC (c:AN):Prop:= ∀ a∈c.A_,Acl a
def AfP {α:Type} (p:α->Bool) (l:List α):Int:=(l.countP p:Nat)
theorem Ajc {α γ:Type} {l:List α} {q p:α->Bool} {B:Int×Int->Option ((Int×Int)⊕(Int⊕Bool))} {K:Int->Option γ} {f:Bool->Option γ} (hn:l.length<1000)
 (hB: ∀ (i:Nat) (h:i<l.length) (n:Nat),n<=i->B ((n:Int),(i:Int))=some (if q l[i]=true then .inl (((if p l[i]=true then n+1 else n:Nat):Int),(i:Int)+1)else .inr (.inr false))) (hE: ∀ n:Int,B (n,(l.length:Int))=some (.inr (.inl n))):
 (iter B FU (0,0)).bind (Sum.elim K f)=if l.all q=true then K (AfP p l)else f false:=by
 have key: ∀ (k i N n:Nat),i+k=l.length->k<N->n<=i->(iter B N ((n:Int),(i:Int))).bind (Sum.elim K f)=if(l.drop i).all q=true then K ((n+(l.drop i).countP p:Nat):Int)else f false:=by
  intro k;induction k with
  | zero=>
    intro i N n hi hN hni;obtain⟨N,rfl⟩: ∃ M,N=M+1:=⟨N - 1,by omega⟩;obtain rfl:i=l.length:=by omega
    rw [A8 (hE _)];simp
  | succ k ih=>
    intro i N n hi hN hni;obtain⟨N,rfl⟩: ∃ M,N=M+1:=⟨N - 1,by omega⟩;have hl:i<l.length:=by omega
    have h:=hB i hl n hni;rw [List.drop_eq_getElem_cons hl,List.all_cons,List.countP_cons];cases hq:q l[i]
    ·simp_all [A8]
    ·rw [hq]at h;rw [BZ h,Bool.true_and];have:=ih (i+1) N (if p l[i]=true then n+1 else n) (by omega) (by omega) (by grind);grind
 have:=key l.length 0 FU 0 (by omega) (by unfold FU;omega) (by omega);simpa [AfP] using this
def AfQ (a:AG):Bool:=a.Kind==2
def zCo:AS:=⟨0,0,⟨0,0,0,0,0⟩⟩
def zi (c:AN) (n:Int):Bool:=if J9 .i64 c.aea.Types 6 != 0 then !c.Token&&(c.Keys==0&&((c.A_.length:Int)==1&&n==1))else n==0&&((!c.Token&&J9 .i64 c.aea.Types 32==0)||c.anB==zCo)
def zj (c:AN):Bool:=aR c.Name&&(isS c.anB&&(n7 c.aea&&(decide (0<=c.Keys/\c.Keys<=131071)&&decide (0<=c.Color/\c.Color<=31))))
def Adj (c:AN):Bool:=decide (0<=c.Power/\c.Power<=99/\0<=c.acD/\c.acD<=99)&&(J9 .i64 c.aea.Types 1 != 0||(c.Power==0&&c.acD==0))
def zk (c:AN):Bool:=zj c&&(Adj c&&(decide (c.A_.length<=8)&&(c.A_.all abB&&zi c (AfP AfQ c.A_))))
theorem AhD {t:Int} (h:aV t=true):(J9 .i64 t 6 != 0)=(t==2||t==4):=by
 unfold aV at h;by_cases h2:t=2
 ·subst h2;rfl
 ·by_cases h4:t=4
  ·subst h4;rfl
  grind
theorem rng (a b x:Int):(if decide (a<=x) then decide (x<=b)else false)=decide (a<=x/\x<=b):=by grind
theorem onn (a b:Bool):(a|| !(!a&&b))=(a|| !b):=by grind
theorem onm (a b c:Bool):(a||(!(!a&&b)&&c))=(a||(!b&&c)):=by grind
theorem AhE (c:AN) (n:Int) (h:aV c.aea.Types=true):M5 c n=some (zi c n):=by unfold M5 ZD zi;rw [show (⟨(0:Int),(0:Int),(⟨(0:Int),(0:Int),(0:Int),(0:Int),(0:Int)⟩:A5 (Int))⟩:AS)=zCo from rfl,AhD h];simp only [Option.bind_some,ifO];grind
theorem AhF {c:AN} (hl:AhC c):UM c=some (zk c):=by
 unfold zk;by_cases h8:c.A_.length<=8
 ·cases hL:n7 c.aea
  ·simp only [UM,jn,nW,SX,zh,Oa,rng,Option.bind_some,Uk,hL];grind [zj]
  ·have hc:aV c.aea.Types=true:=by simp_all [n7]
   have hk:=Ajc (l:=c.A_) (q:=abB) (p:=AfQ) (K:=fun n=>M5 c n) (f:=fun x=>some x) (B:=fun v=>J6 c v.1 v.2) (by omega) (fun i hi n hn=>by show J6 c (n:Int) (i:Int)=_;simp only [J6,aQ,jn];rw [if_pos (by simp only [bz];omega),Al hi,N_ (by omega),N_ (by omega)];simp only [Option.bind_some,zg (hl _ (List.getElem_mem hi)),AfQ];grind) (by simp_all [J6])
   simp only [AhE c _ hc]at hk;simp only [UM,jn,nW,SX,zh,Oa,rng,Option.bind_some,hk,AhE c _ hc,hL,IF,show decide ((8:Int)<(c.A_.length:Int))=false by simp;omega,gdB,ifA,ifO,ifN,ifP,bT,bF,nnB,onn,onm,aan,ltN];unfold zj Adj;rw [hL,decide_eq_true h8,show (J9 .i64 c.aea.Types 1 != 0)= !(J9 .i64 c.aea.Types 1==0)from rfl];simp only [bne,Bool.decide_and,nnB,Bool.not_or,Bool.not_and,Bool.and_assoc,Bool.true_and,Bool.not_true,Bool.or_false,Bool.false_or]
 ·simp only [UM,jn,nW,SX,zh,Oa,rng,Option.bind_some,Uk,IF];rw [show decide ((8:Int)<(c.A_.length:Int))=true by simp;omega,decide_eq_false h8];simp
theorem AfR {α β γ:Type} [Inhabited α] {l:List α} {p:α->Bool} {c:β} {B:Int->Option (Int⊕(Unit⊕β))} {K:Option γ} {f:β->Option γ} (hn:l.length<9223372036854775807)
 (hB: ∀ (i:Nat) (h:i<l.length),B (i:Int)=some (if p l[i]=true then .inr (.inr c)else .inl ((i:Int)+1))) (hE:B (l.length:Int)=some (.inr (.inl ()))):
 (iter B FU 0).bind (Sum.elim (fun _=>K) f)=if l.any p=true then f c else K:=by
 rw [AfK (q:=fun x=> !p x) hn (fun i h=>by rw [hB i h];cases p l[i]<;>rfl) hE];grind
def zl (l:List AN) (s:List UInt8):Int:=match (List.range l.length).find? (fun i=>(l.getD i default).Name ==s)with
 | some i=>(i:Int)
 | none=> -1
theorem Acn {l:List AN} (hl:l.length<=1000) (s:List UInt8):R7 l s=some (zl l s):=by
 simp only [R7,VS,jn];rw [yR (p:=fun i=>(l.getD i default).Name ==s) (f:=fun i=>(i:Int)) (B:=fun v=>H5 l s v) l.length (by omega) (fun i hi=>by
  show H5 l s (i:Int)=_;unfold H5;rw [if_pos (by simp only [bz];omega),nT hi,N_ (by omega)];grind) (by
  simp_all [H5])]
 grind [zl]
def Aco (l:List AN) (s:List UInt8):Bool:=l.any fun t=>t.Name==s&&t.Token
theorem AhG {l:List AN} (hl:l.length<=1000) (s:List UInt8):Pd l s=some (Aco l s):=by
 simp only [Pd,R8,jn];rw [AfR (l:=l) (p:=fun t=>t.Name==s&&t.Token) (c:=true) (B:=fun v=>Gt l s v) (by omega) (fun i hi=>by
  show Gt l s (i:Int)=_;unfold Gt;rw [if_pos (by simp only [bz];omega),Al hi,N_ (by omega)];grind [Uk]) (by
  simp_all [Gt])]
 grind [Aco]
def Acp (l:List AN) (e:AF):Bool:=e.Op==12&& !Aco l e.aag
def rE (l:List AN) (c:AN):Bool:=c.A_.any fun a=>a.w_.any (Acp l)
def AhH (c:AN):Prop:=c.A_.length<9223372036854775807/\AhC c
theorem wc {l:List AN} (hl:l.length<=1000) {c:AN} (hc:AhH c):KD l c=some (!rE l c):=by
 simp only [KD,Ot,jn];rw [AfR (p:=fun a=>a.w_.any (Acp l)) (c:=false) (B:=fun v=>EB l c v) hc.1 (fun i hi=>by
  show EB l c (i:Int)=_;have he:=(hc.2 _ (List.getElem_mem hi)).2;have hlen:=hc.1;simp only [EB,Ou,jn];rw [if_pos (by simp only [bz];omega),N_ (by omega)];rw [AfR (p:=Acp l) (c:=false) (B:=fun v=>DN l c (i:Int) v) he (fun k hk=>by
   show DN l c (i:Int) (k:Int)=_;unfold DN;rw [Al hi];simp only [Option.bind_some];rw [if_pos (by simp only [bz];omega),Al hk,N_ (by omega)];rw [show Acp l c.A_[i].w_[k]=(c.A_[i].w_[k].Op ==12&& !Aco l c.A_[i].w_[k].aag)from rfl];grind [AhG,Uk]) (by
   simp_all [DN,Al])]
  grind) (by
  simp_all [EB])]
 grind [rE]
def n8 (l:List AN) (i:Nat):Option Int:=if !zk (l.getD i default) then some 9 else if zl l (l.getD i default).Name <(i:Int)then some 6 else if rE l (l.getD i default)=true then some 7 else none
def aW (l:List AN):Int×Int:=if 256<l.length then(-1,5)else match (List.range l.length).find? (fun i=>(n8 l i).isSome)with
 | some i=>((i:Int),(n8 l i).getD 0)
 | none=>(-1,0)
def zm (l:List AN):Prop:= ∀ c∈l,AhH c
theorem zn {l:List AN} (hc:zm l):L9 l=some (aW l):=by
 unfold aW;by_cases hl:256<l.length
 ·unfold L9;grind
 ·simp only [L9,SV,jn];rw [if_neg (by simp only [bz];omega),if_neg hl,yR (p:=fun i=>(n8 l i).isSome) (f:=fun i=>((i:Int),(n8 l i).getD 0)) (B:=fun v=>GN l v) l.length (by omega) (fun i hi=>by
   show GN l (i:Int)=_;unfold GN n8;rw [if_pos (by simp only [bz];omega),nT hi,N_ (by omega)];have hm:=hc _ (mo hi);generalize l.getD i default=c at hm;simp only [Option.bind_some,AhF hm.2,Acn (l:=l) (by omega),wc (l:=l) (by omega) hm,decide_eq_true_eq];grind) (by
   simp_all [GN])]
  grind
end Go.PL
