/- Plain laws of catalogues: what the reference answers. -/
import Derived.Test.YtekonfaeacligaaGreatDoorPlRtoPlPg
import Derived.Lib.IndexMore
import Derived.Test.YtekonfaeacligaaGreatDoorPlRtoPlPg
import Derived.Test.YtekonfaeacligaaGreatDoorPlLsX
open List (all_eq_true mem_range)
open Bool (and_eq_true)
open Option.some (injEq)
namespace Go.PL
open Go
set_option maxRecDepth 100000
set_option linter.all false
set_option maxHeartbeats 4000000
theorem gK {α:Type} [Inhabited α] {l:List α} {i:Nat} (h:i<l.length):idx l (i:Int)=some (l.getD i default):=by rw [AV h,lM h]
theorem Ta {i:Nat} (h:i<9223372036854775807):Aj ((i:Int)+1)=(i:Int)+1:=by grind [A1]
theorem Abv {β γ:Type} {p:Nat->Bool} {c:β} {B:Int->Option (Int⊕(Unit⊕β))} {K:Option γ} {f:β->Option γ} (n:Nat) (hn:n<9223372036854775807)
 (hB: ∀ i:Nat,i<n->B (i:Int)=some (if p i=true then .inl ((i:Int)+1)else .inr (.inr c))) (hE:B (n:Int)=some (.inr (.inl ()))):
 (iter B FU 0).bind (Sum.elim (fun _=>K) f)=if(List.range n).all p=true then K else f c:=by
 have key: ∀ (k i N:Nat),i+k=n->k<N->(iter B N (i:Int)).bind (Sum.elim (fun _=>K) f)=if(List.range' i k).all p=true then K else f c:=by
  intro k;induction k with
  | zero=>
    intro i N hi hN;obtain⟨N,rfl⟩: ∃ M,N=M+1:=⟨N - 1,by omega⟩;obtain rfl:i=n:=by omega
    rw [B6 hE];rfl
  | succ k ih=>
    intro i N hi hN;obtain⟨N,rfl⟩: ∃ M,N=M+1:=⟨N - 1,by omega⟩;have h:=hB i (by omega);have:=ih (i+1) N (by omega) (by omega);rw [List.range'_succ,List.all_cons];cases hp:p i
    ·simp_all [B6]
    ·rw [Dy (by rw [h,hp];rfl),Bool.true_and];exact this
 have:=key n 0 FU (by omega) (by unfold FU;omega);simp_all
theorem gL:((List.range 64).all fun a=>(List.range 64).all fun b=>Dz (a:Int) (b:Int) 63==some (KG .i64 a b==0))=true:=by kernel_rfl
theorem gM:((List.range 32).all fun a=>(List.range 32).all fun b=>Dz (a:Int) (b:Int) 31==some (KG .i64 a b==0))=true:=by kernel_rfl
theorem m7 (a b:Int):Dz a b 63=some (decide (0<=a/\a<=63/\0<=b/\b<=63)&&(KG .i64 a b==0)):=by
 by_cases h:0<=a/\a<=63/\0<=b/\b<=63
 ·have t:=gL;rw [all_eq_true]at t;have t1:=t a.toNat (mem_range.2 (by omega));rw [all_eq_true]at t1;have t2:=t1 b.toNat (mem_range.2 (by omega));grind
 grind [Dz]
theorem m8 (a b:Int):Dz a b 31=some (decide (0<=a/\a<=31/\0<=b/\b<=31)&&(KG .i64 a b==0)):=by
 by_cases h:0<=a/\a<=31/\0<=b/\b<=31
 ·have t:=gM;rw [all_eq_true]at t;have t1:=t a.toNat (mem_range.2 (by omega));rw [all_eq_true]at t1;have t2:=t1 b.toNat (mem_range.2 (by omega));grind
 grind [Dz]
def tS (s:List UInt8) (i:Nat):Int:=(s.getD i 0).toNat
def okc (c:Int):Bool:=decide ((97<=c/\c<=122)\/(48<=c/\c<=57)\/c=45)
def dbl (s:List UInt8) (i:Nat):Bool:=decide (0<i/\tS s i=45/\tS s (i - 1)=45)
def Wz (s:List UInt8):Bool:=decide (1<=s.length/\s.length<=32/\(97<=tS s 0/\tS s 0<=122)/\tS s (s.length - 1) ≠ 45)&&(List.range s.length).all fun i=>okc (tS s i)&& !dbl s i
theorem bM {s:List UInt8} {i:Nat} (h:i<s.length):aaZ s (i:Int)=some (tS s i):=by unfold aaZ;rw [if_pos (by omega)];rfl
theorem yK (c:Int):OR c=some (decide (97<=c/\c<=122)):=by unfold OR;grind
theorem gN (s:List UInt8):QI s=some (Wz s):=by
 unfold QI;by_cases h:1<=s.length/\s.length<=32
 ·have h0:aaZ s 0=some (tS s 0):=bM (i:=0) (by omega);have hl:aaZ s (Aj ((s.length:Int) - 1))=some (tS s (s.length - 1)):=by grind [A1,bM]
  have hk:=Abv (K:=some true) (f:=fun x=>some x) (c:=false) (p:=fun i=>okc (tS s i)&& !dbl s i) (B:=fun v=>HB s v) s.length (by omega) (fun i hi=>by
   show HB s (i:Int)=_;unfold HB;have hp:0<i->aaZ s (Aj ((i:Int) - 1))=some (tS s (i - 1)):=(by grind [A1,bM]);rw [if_pos (by simp only [bz];omega),bM hi,Ta (by omega)];simp only [Option.bind_some,yK,gd];grind [dbl,okc]) (by
   simp_all [HB])
  have hb1:(if decide ((s.length:Int)<1) then true else decide (32<(s.length:Int)))=false:=by grind
  simp only [Option.bind_some,hb1,h0,hl,gd,yK,jn,Y7,hk];unfold Wz;grind
 grind [Wz,gd]
theorem tT {β:Type} {p:Nat->Bool} {f:Nat->β} {B:Int->Option (Int⊕(Unit⊕β))} (n:Nat) (hn:n<9223372036854775807)
 (hB: ∀ i:Nat,i<n->B (i:Int)=some (if p i=true then .inr (.inr (f i))else .inl ((i:Int)+1))) (hE:B (n:Int)=some (.inr (.inl ()))):
 iter B FU 0=some (match (List.range n).find? p with | some i=> .inr (f i) | none=> .inl ()):=by
 have key: ∀ (k i N:Nat),i+k=n->k<N->iter B N (i:Int)=some (match (List.range' i k).find? p with | some i=> .inr (f i) | none=> .inl ()):=by
  intro k;induction k with
  | zero=>
    intro i N hi hN;obtain⟨N,rfl⟩: ∃ M,N=M+1:=⟨N - 1,by omega⟩;obtain rfl:i=n:=by omega
    rw [B6 hE];rfl
  | succ k ih=>
    intro i N hi hN;obtain⟨N,rfl⟩: ∃ M,N=M+1:=⟨N - 1,by omega⟩;have h:=hB i (by omega);rw [List.range'_succ,List.find?_cons];cases hp:p i
    ·rw [hp,if_neg (by simp)]at h;grind [Dy]
    ·rw [hp,if_pos rfl]at h;rw [B6 h]
 have:=key n 0 FU (by omega) (by unfold FU;omega);grind [List.range_eq_range']
def tU (l:List (List UInt8)) (s:List UInt8):Bool:=(List.range l.length).any fun i=>l.getD i default==s
def Abw:List (List UInt8):=[YO,VP]
def Abx:List (List UInt8):=[OL,RO,VQ,YP,YQ,fC]
theorem m9 (l:List (List UInt8)) (hl:l.length<9223372036854775807) (s:List UInt8): ∃ w,Je l s=some w/\decide (w<0)= !tU l s:=by
 unfold Je jn;rw [tT (p:=fun i=>l.getD i default==s) (f:=fun i=>(i:Int)) (B:=fun v=>Ey l s v) l.length hl (fun i hi=>by
  show Ey l s (i:Int)=_;unfold Ey;rw [if_pos (by simp only [bz];omega),gK hi,Ta (by omega)];grind) (by
  simp_all [Ey])]
 cases h:(List.range l.length).find? (fun i=>l.getD i default==s)with
 | none=>exact⟨-1,rfl,by grind [tU]⟩
 | some i=>exact⟨(i:Int),rfl,by grind [tU]⟩
def tV (s:List UInt8):Bool:=Wz s&&(!tU Abw s&& !tU Abx s)
theorem Jk (s:List UInt8):GH s=some (tV s):=by obtain⟨w1,h1,e1⟩:=m9 Abw (by decide) s;obtain⟨w2,h2,e2⟩:=m9 Abx (by decide) s;unfold GH tV;simp only [Option.bind_some,gN,show Hv=some Abw from rfl,show Fk=some Abx from rfl,gd];grind
theorem ltN (a b:Int):decide (a<b)= !decide (b<=a):=by grind
theorem nnB (b:Bool):(!(!b))=b:=by grind
theorem amy (a b:Bool):(a&&(a&&b))=(a&&b):=by grind
theorem oon (a b:Bool):(a||(!a&&b))=(a||b):=by grind
def bN (b:Ag):Bool:=(decide (0<=b.Kind)&&decide (b.Kind<=3))&&((decide (0<=b.N)&&decide (b.N<=1000000))&&(b.Kind != 0||b.N==0))
theorem nc (b:Ag):GG b=some (bN b):=by unfold GG bN;grind
theorem oan (a b:Bool):(!a|| !(a&&b))= !(a&&b):=by grind
def ne (f:Am):Bool:=(D5 f).getD false
theorem LS (f:Am):D5 f=some (ne f):=by
 have:T (D5 f):=by unfold D5;simp only [Option.bind_some,m7,m8,Jk,nc,gdB,ifA,yj,ifN,ifP,bT,bF,nnB,amy,oon,oan];grind
 grind [ne]
theorem xv (a:Int):Ml a=some ((decide (1<=a)&&decide (a<=63))&&(KG .i64 a 6==0)):=by simp_all [Ml]
theorem gdt {α:Type} [Inhabited α] (o:Option α):gd true o=o:=rfl
theorem gdf {α:Type} [Inhabited α] (o:Option α):gd false o=some default:=rfl
theorem Ts {α:Type} {a:α}:T (some a):=⟨_,rfl⟩
theorem Tb {α β:Type} {o:Option α} {f:α->Option β} (h:T o) (k: ∀ a,T (f a)):T (o.bind f):=by obtain⟨r,rfl⟩:=h;exact k r
theorem Tg {α:Type} [Inhabited α] {b:Bool} {o:Option α} (h:T o):T (gd b o):=by cases b;exact⟨_,rfl⟩;exact h
theorem Tj {α β:Type} {f:α->Option β} {g:(α->Option β)->Option β} (h: ∀ v,T (f v)) (k: ∀ j,(∀ v,T (j v))->T (g j)):T (jn f g):=k f h
theorem Aby {o:Option Bool} (h:T o):o=some (o.getD false):=by grind
theorem Adk (m:BG):T (IE m):=by
 obtain⟨k,n,p,s,f⟩:=m;by_cases hk:1<=k/\k<=14
 ·have:k=1\/k=2\/k=3\/k=4\/k=5\/k=6\/k=7\/k=8\/k=9\/k=10\/k=11\/k=12\/k=13\/k=14:=by omega
  clear hk;rcases this with rfl | rfl | rfl | rfl | rfl | rfl | rfl | rfl | rfl | rfl | rfl | rfl | rfl | rfl
  all_goals
   simp [T,jn,IE,Ms,JY,JX,Lv,Ia,Ic,Ib,Gf,xv,LS,Jk,gdB,gdt,gdf,ifA,yj,ifN,ifP,Option.getD_some]
 ·have h1:(decide (k<1)||decide (14<k))=true:=by simp;omega
  exact⟨false,by simp [jn,IE,yj,h1,gdf]⟩
theorem gO (a b:Int) (hb:b<=1000):W (Ie a b) (fun _=>True):=by unfold Ie jn;exact wMk (B:=fun m k=>V6 b m k) (g:=fun m=>Aj (Int.tdiv m 2)) b hb (fun m k=>rfl) (fun m=>⟨_,rfl,trivial⟩)
theorem nf:((List.range 6).all fun i=>yk 40 (Gp (i:Int)))=true:=by kernel_rfl
theorem tW:((List.range 5).all fun i=>yk 40 (Lw (i:Int)))=true:=by kernel_rfl
theorem tX:((List.range 17).all fun i=>yk 40 (O2 (i:Int)))=true:=by kernel_rfl
theorem Abz:((List.range 64).all fun i=>yk 60 (CC (i:Int)))=true:=by kernel_rfl
theorem AbA:((List.range 32).all fun i=>yk 60 (Jh (i:Int)))=true:=by kernel_rfl
theorem tY (a:Int):W (CC a) (fun r=>r.length<=60):=by
 by_cases h:0<=a/\a<=63
 ·exact zo Abz h.1 (by omega)
 ·have:(if decide (a<1) then true else decide (63<a))=true:=by grind
  unfold CC;simp only [Option.bind_some];rw [if_pos this];exact⟨_,rfl,by simp⟩
theorem tZ (a:Int):W (Jh a) (fun r=>r.length<=60):=by
 by_cases h:0<=a/\a<=31
 ·exact zo AbA h.1 (by omega)
 ·have:bg a=some false:=by unfold bg;simp;omega
  unfold Jh jn;rw [this];exact⟨_,rfl,by simp⟩
theorem lb {a:Int} (h0: -9223372036854775808<=a) (h1:a<=9223372036854775807):W (CH a) (fun r=>r.length<=21):=
 ⟨_,(show CH a=lJ a from rfl).trans (dx h0 h1),ZO h0 h1⟩
theorem pR {l:List (List UInt8)} {sep:List UInt8} (h:LB 60 l) (hs:sep.length<=10):W (OU l sep) (fun r=>r.length<=37000):=by
 unfold OU jn;have hl:=h.1;refine W.it (fun v=>0<=v.2/\v.2<=l.length/\(v.1.length:Int)<=610*v.2) (fun v=>((l.length:Int) - v.2).toNat) (by grind) (by grind) (fun v hv=>?_);obtain⟨s,i⟩:=v;dsimp only at hv ⊢;unfold RY jn;have J: ∀ s:List UInt8,(s.length:Int)<=610*i+10->i<l.length->W (JQ l i s) (LQ (fun v=>0<=v.2/\v.2<=l.length/\(v.1.length:Int)<=610*v.2) (fun v=>((l.length:Int) - v.2).toNat) (s,i) (fun r=>W (RX r) (fun r=>r.length<=37000))):=fun s hs hi=>by unfold JQ;refine W.bd (W.idx (by omega)) (fun e he=>?_);have:=h.2 e he.1;refine R9 100000 (by omega) (fun s' hs'=>?_);grind [A1,W.nx]
 refine W.if (fun hi=>?_) (fun _=>W.ex ⟨_,rfl,by omega⟩)
 have hi:=of_decide_eq_true hi;refine W.if (fun _=>?_) (fun _=>?_)
 ·refine R9 100000 (by omega) (fun s' hs'=>?_);have:=J s' (by omega) hi;exact this
 grind
theorem wIx {l:List (List UInt8)} {b:Nat} {i:Int} (h:0<=i/\i<l.length) (hb:(l.all fun w=>Nat.ble w.length b)=true):W (idx l i) (fun e=>e.length<=b):=
 (W.idx h).imp (by simp_all)
def t6 (b:Ag):Prop:=0<=b.Kind/\b.Kind<=3/\0<=b.N/\b.N<=1000000
theorem WA {a:List UInt8} {b:Ag} (ha:a.length<=10) (hb:t6 b):W (CX a b) (fun r=>r.length<=600):=by
 obtain⟨h1,h2,h3,h4⟩:=hb;unfold CX;refine W.if (fun _=>⟨_,rfl,by simp⟩) (fun hk=>?_)
 refine W.re (v:=[([]:List UInt8),YV,YW,mT]) rfl ?_;refine W.bd (wIx (b:=10) (by simp;omega) (by kernel_rfl)) (fun e he=>?_);refine R9 100 (by omega) (fun s hs=>?_);refine W.bd (lb (by omega) (by omega)) (fun r hr=>?_);exact R9 100 (by omega) (fun s hs=>⟨_,rfl,by omega⟩)
theorem Zg {s:List UInt8} (h:Wz s=true):s.length<=32:=by simp_all [Wz]
theorem WB {b:Ag} (h:bN b=true):t6 b:=by unfold bN at h;simp only [and_eq_true,decide_eq_true_eq]at h;exact⟨h.1.1,h.1.2,h.2.1.1,h.2.1.2⟩
structure FOK (f:Am):Prop where
 z:0<=f.F_/\f.F_<=5
 w:0<=f.Who/\f.Who<=2
 s:0<=f.Self/\f.Self<=2
 t:0<=f.Tap/\f.Tap<=2
 k:0<=f.Keys/\f.Keys<=131071
 y:0<=f.Types/\f.Types<=63/\0<=f.abo/\f.abo<=63
 c:0<=f.ac1/\f.ac1<=31/\0<=f.aaY/\f.aaY<=31
 b:f.Sub.length<=32
 p:t6 f.Power
 q:t6 f.aa9
 v:t6 f.Value
theorem xw {f:Am} (h:ne f=true):FOK f:=by have e:=LS f;rw [h]at e;unfold D5 at e;have e1: ∀ x:Int,(x != 0)= !(x==0):=fun x=>rfl;simp only [Option.bind_some,m7,m8,Jk,nc,gdB,ifA,yj,ifN,ifP,bT,bF,nnB,amy,oon,aan,oan,Bool.not_or,Bool.not_and,Bool.and_assoc,e1]at e;simp only [injEq,and_eq_true,decide_eq_true_eq,Bool.not_eq_true',decide_eq_false_iff_not,Bool.or_eq_false_iff,Bool.not_eq_false']at e;refine⟨by omega,by omega,by omega,by omega,by omega,by omega,by omega,?_,WB (by grind),WB (by grind),WB (by grind)⟩;grind [tV,Zg]
theorem AbB (f:Am):W (Pl f) (fun r=>r.length<=37000):=by
 unfold Pl jn;rw [LS];refine W.lt (fun b hb=>?_);refine W.if (fun _=>⟨_,rfl,by simp⟩) (fun h=>?_)
 have F:=xw (f:=f) (by subst hb;simpa using h);clear h hb b;refine W.re (v:=[([]:List UInt8),RR,Lt,Jc,OO,OP]) rfl ?_;refine W.re (v:=[([]:List UInt8),YT,VU]) rfl ?_;refine W.re (v:=[([]:List UInt8),fJ,YU]) rfl ?_;refine W.re (v:=[([]:List UInt8),NK,JP]) rfl ?_;have z:=F.z;have w:=F.w;have s:=F.s;have t:=F.t;have b:=F.b;refine W.bd (wIx (b:=600) (by simp;omega) (by kernel_rfl)) (fun e he=>?_);refine zp (k:=0) LB.nil he (fun l hl=>?_);clear he e;unfold R4 jn;refine W.bd (wIx (b:=600) (by simp;omega) (by kernel_rfl)) (fun e he=>?_);refine zp hl he (fun l hl=>?_);clear he e;unfold Pk jn;refine W.bd (wIx (b:=600) (by simp;omega) (by kernel_rfl)) (fun e he=>?_);refine zp hl he (fun l hl=>?_);clear he e;unfold Pj jn;refine wLp (B:=IG f) 6 hl (fun _=>rfl) (fun i m l hi hm hl=>?_) (fun l hl=>?_)
 ·unfold IG jn;rw [if_pos (by simp only [bz];omega)];refine W.bd (gO _ _ (by omega)) (fun r _=>?_);refine W.if (fun _=>?_) (fun _=>uR (hl.le (by omega)))
  refine W.bd (nY nf hi) (fun x hx=>?_);exact yl hl (by omega) (fun l hl=>uR hl)
 unfold Pi jn;refine wLp (B:=IF f) 6 hl (fun _=>rfl) (fun i m l hi hm hl=>?_) (fun l hl=>?_)
 ·unfold IF jn;rw [if_pos (by simp only [bz];omega)];refine W.bd (gO _ _ (by omega)) (fun r _=>?_);refine W.if (fun _=>?_) (fun _=>uR (hl.le (by omega)))
  refine W.bd (nY nf hi) (fun x hx=>?_);refine R9 100 (by have:Jd.length=4:=rfl;omega) (fun x hx=>?_);exact yl hl (by have:Jd.length=4:=rfl;omega) (fun l hl=>uR hl)
 unfold Ph jn;refine wLp (B:=J2 f) 5 hl (fun _=>rfl) (fun i m l hi hm hl=>?_) (fun l hl=>?_)
 ·unfold J2 jn;rw [if_pos (by simp only [bz];omega)];refine W.bd (gO _ _ (by omega)) (fun r _=>?_);refine W.if (fun _=>?_) (fun _=>uR (hl.le (by omega)))
  refine W.bd (nY tW hi) (fun x hx=>?_);exact yl hl (by omega) (fun l hl=>uR hl)
 unfold Pg jn;refine wLp (B:=J1 f) 5 hl (fun _=>rfl) (fun i m l hi hm hl=>?_) (fun l hl=>?_)
 ·unfold J1 jn;rw [if_pos (by simp only [bz];omega)];refine W.bd (gO _ _ (by omega)) (fun r _=>?_);refine W.if (fun _=>?_) (fun _=>uR (hl.le (by omega)))
  refine W.bd (nY tW hi) (fun x hx=>?_);refine R9 100 (by have:Jd.length=4:=rfl;omega) (fun x hx=>?_);exact yl hl (by have:Jd.length=4:=rfl;omega) (fun l hl=>uR hl)
 unfold Pf jn;have J: ∀ l,LB 26 l->W (J0 f [([]:List UInt8),NK,JP] l) (fun r=>r.length<=37000):=fun l hl=>by
  unfold J0 jn;refine wLp (B:=JZ f) 17 hl (fun _=>rfl) (fun i m l hi hm hl=>?_) (fun l hl=>?_)
  ·unfold JZ jn;rw [if_pos (by simp only [bz];omega)];refine W.bd (gO _ _ (by omega)) (fun r _=>?_);refine W.if (fun _=>?_) (fun _=>uR (hl.le (by omega)))
   refine W.bd (nY tX hi) (fun x hx=>?_);refine R9 100 (by have:QD.length=5:=rfl;omega) (fun x hx=>?_);exact yl hl (by have:QD.length=5:=rfl;omega) (fun l hl=>uR hl)
  unfold Pe jn;refine W.bd (wIx (b:=600) (by simp;omega) (by kernel_rfl)) (fun e he=>?_);refine zp hl he (fun l hl=>?_);unfold Pd jn;refine W.bd (WA (by decide) F.p) (fun e he=>?_);refine zp hl he (fun l hl=>?_);unfold Pc jn;refine W.bd (WA (by decide) F.q) (fun e he=>?_);refine zp hl he (fun l hl=>?_);unfold Pb jn;refine W.bd (WA (by decide) F.v) (fun e he=>?_);refine zp hl he (fun l hl=>?_);unfold Pa;refine W.if (fun _=>⟨_,rfl,by decide⟩) (fun _=>?_)
  exact W.bd (pR (hl.le (by omega)) (by decide)) (fun r hr=>⟨r,rfl,hr⟩)
 refine W.if (fun _=>?_) (fun _=>J _ (hl.le (by omega)))
 have:MQ.length=4:=rfl;refine R9 100 (by omega) (fun x hx=>?_);grind [yl]
def KU:Nat:=9223372036854775800
theorem FU7:FU=KU+1+1+1+1+1+1+1:=rfl
def Zh (m n:Int):Bool:=if decide (n<0) then true else decide (m<n)
theorem Adm {m n:Int}:Zh m n=false↔0<=n/\n<=m:=by grind [Zh]
def xy (c:AJ):Bool:=Zh 9 c.Color.x0||(Zh 9 c.Color.x1||(Zh 9 c.Color.x2||(Zh 9 c.Color.x3||Zh 9 c.Color.x4)))
def yL (c:AJ):Bool:= !xy c&&(decide (0<=c.Generic)&&(decide (c.Generic<=99)&&(decide (0<=c.X)&&decide (c.X<=2))))
theorem rb (m e:Int):(if decide (e<(0:Int)) then true else decide (m<e))=Zh m e:=rfl
theorem rIs (c:AJ) (k:Int) (e:Int) (hk:k<5) (h:idx c.Color.l k=some e):CW c k=(if Zh 9 e=true then some (.inr (.inr false))else some (.inl (Aj (k+1)))):=by unfold CW Zh;rw [if_pos (by simpa using hk)];grind [gd]
theorem t7 (c:AJ):CW c 0=(if Zh 9 c.Color.x0=true then some (.inr (.inr false))else some (.inl 1)):=rIs c 0 _ (by omega) (by kernel_rfl)
theorem xz (c:AJ):CW c 1=(if Zh 9 c.Color.x1=true then some (.inr (.inr false))else some (.inl 2)):=rIs c 1 _ (by omega) (by kernel_rfl)
theorem AbC (c:AJ):CW c 2=(if Zh 9 c.Color.x2=true then some (.inr (.inr false))else some (.inl 3)):=rIs c 2 _ (by omega) (by kernel_rfl)
theorem Ado (c:AJ):CW c 3=(if Zh 9 c.Color.x3=true then some (.inr (.inr false))else some (.inl 4)):=rIs c 3 _ (by omega) (by kernel_rfl)
theorem Afc (c:AJ):CW c 4=(if Zh 9 c.Color.x4=true then some (.inr (.inr false))else some (.inl 5)):=rIs c 4 _ (by omega) (by kernel_rfl)
theorem Afd (c:AJ):CW c 5=some (.inr (.inl ())):=by kernel_rfl
theorem t8 (c:AJ):iter (fun(v:Int)=>CW c v) FU 0=some (if xy c=true then .inr false else .inl ()):=by
 rw [FU7];unfold xy;cases h0:Zh 9 c.Color.x0
 ·cases h1:Zh 9 c.Color.x1
  ·cases h2:Zh 9 c.Color.x2
   ·cases h3:Zh 9 c.Color.x3
    ·cases h4:Zh 9 c.Color.x4
     all_goals simp_all [iter,t7,xz,AbC,Ado,Afc,Afd]
    simp_all [iter,t7,xz,AbC,Ado]
   simp_all [iter,t7,xz,AbC]
  grind [iter,t7,xz]
 ·simp [iter,t7,h0]
theorem Pu (c:AJ):QF c=some (yL c):=by grind [QF,yL,jn,t8,YZ]
structure Ok (c:AJ):Prop where
 c0:0<=c.Color.x0/\c.Color.x0<=9
 c1:0<=c.Color.x1/\c.Color.x1<=9
 c2:0<=c.Color.x2/\c.Color.x2<=9
 c3:0<=c.Color.x3/\c.Color.x3<=9
 c4:0<=c.Color.x4/\c.Color.x4<=9
 g:0<=c.Generic/\c.Generic<=99
 x:0<=c.X/\c.X<=2
theorem AbD {c:AJ} (h:yL c=true):Ok c:=by unfold yL at h;simp only [and_eq_true,Bool.not_eq_true',decide_eq_true_eq]at h;obtain⟨h1,h2,h3,h4,h5⟩:=h;unfold xy at h1;simp only [Bool.or_eq_false_iff,Adm]at h1;obtain⟨a,b,c',d,e⟩:=h1;exact⟨a,b,c',d,e,⟨h2,h3⟩,⟨h4,h5⟩⟩
theorem t9 (n:Int):CH n=lJ n:=by kernel_rfl
theorem lc {n:Int} (h0: -9223372036854775808<=n) (h1:n<=9223372036854775807):CH n=some (Lib.itoa n):=by rw [t9,dx h0 h1]
def gP (n:Int) (b:UInt8):List UInt8:=List.replicate n.toNat b
theorem bO (n:Int) (b:UInt8):(gP n b).length =n.toNat:=by simp [gP]
def gtx (g:Int):List UInt8:=if 0<g then Lib.itoa g else []
def ua (c:AJ):List UInt8:=gP c.X 88++gtx c.Generic
def tx1 (c:AJ):List UInt8:=ua c++gP c.Color.x0 65
def tx2 (c:AJ):List UInt8:=tx1 c++gP c.Color.x1 67
def tx3 (c:AJ):List UInt8:=tx2 c++gP c.Color.x2 74
def tx4 (c:AJ):List UInt8:=tx3 c++gP c.Color.x3 82
def yM (c:AJ):List UInt8:=tx4 c++gP c.Color.x4 69
theorem xA {g:Int} (h:0<=g/\g<=99):(gtx g).length <=21:=by grind [gtx,ZO]
theorem xB {c:AJ} (h:Ok c):(ua c).length <=23/\(tx1 c).length <=32/\(tx2 c).length <=41/\(tx3 c).length <=50/\(tx4 c).length <=59/\(yM c).length <=68:=by
 have a:=h.c0;have b:=h.c1;have d:=h.c2;have e:=h.c3;have f:=h.c4;have g:=h.g;have x:=h.x;have hg:=xA g;have h0:(ua c).length <=23:=by grind [ua,bO]
 grind [tx1,bO,tx2,tx3,tx4,yM]
def zC':AJ:=⟨0,0,⟨0,0,0,0,0⟩⟩
def ub (c:AJ):List UInt8:=if yL c=false then [] else if c=zC' then tC else yM c
theorem gQ {B:(List UInt8)×Int->Option (((List UInt8)×Int)⊕(List UInt8))} {s:List UInt8} {n:Int} {b:UInt8} (hn:0<=n/\n<=1000)
 (hgo: ∀ (t:List UInt8) (k:Int),t.length<=s.length+1000->0<=k->k<n->B (t,k)=some (.inl (t++[b],k+1))) (ah7: ∀ t,B (t,n)=some (.inr t)):
 iter B FU (s,0)=some (s++gP n b):=by
 refine L4 (fun i=>(s++List.replicate i b,(i:Int))) n.toNat (by omega) (fun i hi=>?_) ?_ (by simp)
 ·rw [hgo _ _ (by simp;omega) (by omega) (by omega),List.append_assoc, <-List.replicate_succ'];rfl
 ·rw [show ((n.toNat:Nat):Int)=n by omega];exact ah7 _
theorem uc {c:AJ} {s:List UInt8} {k e:Int} {b:UInt8} (h:idx c.Color.l k=some e) (h2:ZM QE k (Aj (k+1))=some [b]) (he:0<=e/\e<=9) (hs:s.length<=1000):
 iter (fun(v:(List UInt8)×Int)=>EC c k v.1 v.2) FU (s,0)=some (s++gP e b):=by
 refine gQ (by omega) (fun t j ht h0 h1=>?_) (fun t=>?_)
 ·show EC c k t j=_;unfold EC;rw [h];simp only [Option.bind_some];rw [if_pos (by simpa using h1),h2];grind [IU,maxLen,A1]
 simp_all [EC]
theorem rtB {c:AJ} {s:List UInt8} {k e:Int} {b:UInt8} (hk:k<5) (h:idx c.Color.l k=some e) (h2:ZM QE k (Aj (k+1))=some [b]) (he:0<=e/\e<=9) (hs:s.length<=1000):
 Gj c s k=some (.inl (s++gP e b,Aj (k+1))):=by
 unfold Gj jn;rw [if_pos (by simpa using hk),uc h h2 he hs];rfl
theorem xC {c:AJ} (h:Ok c):iter (fun(v:(List UInt8)×Int)=>Gj c v.1 v.2) FU (ua c,0)=some (yM c):=by obtain⟨l0,l1,l2,l3,l4,l5⟩:=xB h;rw [FU7];rw [Dy (s':=(tx1 c,1)) (rtB (by omega) (by kernel_rfl) (by kernel_rfl) h.c0 (by grind))];rw [Dy (s':=(tx2 c,2)) (rtB (by omega) (by kernel_rfl) (by kernel_rfl) h.c1 (by grind))];rw [Dy (s':=(tx3 c,3)) (rtB (by omega) (by kernel_rfl) (by kernel_rfl) h.c2 (by grind))];rw [Dy (s':=(tx4 c,4)) (rtB (by omega) (by kernel_rfl) (by kernel_rfl) h.c3 (by grind))];rw [Dy (s':=(yM c,5)) (rtB (by omega) (by kernel_rfl) (by kernel_rfl) h.c4 (by grind))];exact B6 (by kernel_rfl)
theorem xD {c:AJ} (h:Ok c):iter (fun(v:(List UInt8)×Int)=>ED c v.1 v.2) FU ([],0)=some (gP c.X 88):=by
 have hx:=h.x;refine(gQ (s:=[]) (n:=c.X) (b:=88) (by omega) (fun t j ht h0 h1=>?_) (fun t=>?_)).trans (by simp)
 ·show ED c t j=_;unfold ED;rw [if_pos (by simpa using h1),IU (by simp at ht;simp [maxLen,yI];omega),A1 (by omega) (by omega)];rfl
 simp_all [ED]
theorem bP (n:Nat):Lib.decDigits n ≠ []:=by rw [Lib.decDigits];split<;>simp
theorem xE (n:Int):Lib.itoa n ≠ []:=by grind [Lib.itoa,bP]
theorem QM {n:Int} {b:UInt8} (h0:0<=n):gP n b=[]↔n=0:=by grind [gP,List.replicate_eq_nil_iff]
theorem xF {c:AJ} (h:Ok c):yM c=[]↔c=zC':=by
 have hg:gtx c.Generic=[]↔c.Generic=0:=by
  have:=h.g;unfold gtx;by_cases h0:0<c.Generic
  ·rw [if_pos h0];grind [xE]
  grind
 unfold yM tx4 tx3 tx2 tx1 ua;simp only [List.append_eq_nil_iff,QM h.x.1,QM h.c0.1,QM h.c1.1,QM h.c2.1,QM h.c3.1,QM h.c4.1,hg];obtain⟨g,x,⟨a,b,d,e,f⟩⟩:=c;grind [zC']
theorem pS (c:AJ):O6 c=some (ub c):=by
 unfold O6 ub jn;rw [Pu];cases hs:yL c
 ·rfl
 ·have h:=AbD hs;simp only [Option.bind_some,Bool.not_true,Bool.false_eq_true,if_false,Bool.true_eq_false,xD h];have hg:=h.g;have fin:LL c (ua c)=some (if c=zC' then tC else yM c):=by grind [LL,jn,xC,R3,xF]
  show LM c (gP c.X 88)=_;simp only [LM,jn];by_cases h0:0<c.Generic
  ·have e:ua c=gP c.X 88++Lib.itoa c.Generic:=by unfold ua gtx;grind
   rw [if_pos (by simp;omega),lc (by omega) (by omega)];simp only [Option.bind_some];rw [IU (by rw [bO];have:=ZO (n:=c.Generic) (by omega) (by omega);have:=h.x;simp [maxLen];omega), <-e];grind
  ·have e:ua c=gP c.X 88:=by simp_all [ua,gtx,if_neg]
   grind
def yN (a:A6 Int):AJ:=⟨a.x0,0,⟨a.x1,a.x2,a.x3,a.x4,a.x5⟩⟩
theorem xG (a:A6 Int):Wa a=some (yN a):=by kernel_rfl
theorem xH (a:A6 Int):Gq a=some (ub (yN a)):=by grind [Gq,xG,pS]
def bR (m:BG):Bool:=(IE m).getD false
theorem ud (m:BG):IE m=some (bR m):=Aby (Adk m)
theorem AbF {m:BG} (h:bR m=true):(m.Kind=4\/m.Kind=5->m.Sub.length<=32)/\(m.Kind=12\/m.Kind=13-> -99<=m.N/\m.N<=99/\ -99<=m.M/\m.M<=99):=by
 have e:=ud m;rw [h]at e;obtain⟨k,n,p,s,f⟩:=m;refine⟨?_,?_⟩
 ·dsimp only;rintro(rfl | rfl)
  all_goals
   simp [jn,IE,Ms,JY,JX,Lv,Ia,Ic,Ib,Gf,Jk,gdB,gdt,gdf,ifA,yj,ifN,ifP]at e;simp_all [tV,Zg]
 ·dsimp only;rintro(rfl | rfl)
  all_goals
   simp [jn,IE,Ms,JY,JX,Lv,Ia,Ic,Ib,Gf,Jk,gdB,gdt,gdf,ifA,yj,ifN,ifP]at e;omega
def Tx (b:Bool) (n:Nat) (r:List UInt8):Prop:=r.length<=n/\(r==[])= !b
theorem Tx.mk {n:Nat} {r:List UInt8} (h:r.length<=n) (h0:0<r.length):Tx true n r:=⟨h,by cases r<;>simp at *⟩
theorem ue (a:Int):W (LK a) (fun r=>r.length<=2000):=by
 unfold LK jn;have: ∃ b,Lu a=some b:=⟨_,by unfold Lu;rfl⟩;obtain⟨b,hb⟩:=this;rw [hb];refine W.lt (fun b hb=>?_);refine W.if (fun _=>⟨_,rfl,by simp⟩) (fun h=>?_)
 refine W.it (fun(v:Int×List UInt8×Int)=>0<=v.2.2/\v.2.2<=17/\(v.2.1.length:Int)<=41*v.2.2) (fun v=>((17:Int) - v.2.2).toNat) (by grind) (by grind) (fun v hv=>?_);obtain⟨k,s,i⟩:=v;obtain⟨h1,h2,h3⟩:=hv;dsimp only at h1 h2 h3 ⊢;unfold O5 jn;have w:=A1 (x:=i+1) (by omega) (by omega);have J: ∀ s:List UInt8,(s.length:Int)<=41*i+1->i<17->W (JV i (fun v=>Gi k i v) s) (LQ (fun(v:Int×List UInt8×Int)=>0<=v.2.2/\v.2.2<=17/\(v.2.1.length:Int)<=41*v.2.2) (fun v=>((17:Int) - v.2.2).toNat) (k,s,i) (fun r=>W (LJ r) (fun r=>r.length<=2000))):=fun s hs hi=>by unfold JV;refine W.bd (zo tX h1 (by omega)) (fun e he=>?_);refine R9 100000 (by omega) (fun s' hs'=>?_);grind [Gi,W.nx]
 refine W.if (fun hi=>?_) (fun _=>W.ex ?_)
 ·have hi:=of_decide_eq_true hi;refine W.if (fun _=>?_) (by grind [Gi,W.nx])
  refine W.if (fun _=>?_) (by grind)
  have:SW.length=1:=rfl;exact R9 100000 (by omega) (fun s' hs'=>J s' (by omega) hi)
 ·unfold LJ;exact W.if (fun _=>⟨_,rfl,by decide⟩) (fun _=>⟨_,rfl,by omega⟩)
theorem Adu (m:BG):W (Pn m) (Tx (bR m) 200000):=by
 unfold Pn;rw [ud];refine W.lt (fun b hb=>?_);refine W.if (fun h=>⟨_,rfl,by rw [<-hb];simp at h;subst h;exact⟨by simp,rfl⟩⟩) (fun h=>?_)
 obtain⟨h1,h2⟩:=AbF (m:=m) (by subst hb;simpa using h);rw [<-hb,show b=true by simpa using h];have l1:VR.length=6:=rfl;have l2:RP.length=7:=rfl;have l3:fE.length=4:=rfl;have l4:YS.length=5:=rfl;have l5:RQ.length=7:=rfl;have l6:OM.length=8:=rfl;have l7:VS.length=6:=rfl;have l8:H8.length=6:=rfl;have l9:MR.length=9:=rfl;have l10:mU.length=1:=rfl;have l11:mV.length=3:=rfl;have l12:fK.length=4:=rfl;have l13:SX.length=1:=rfl;refine W.if (fun _=>⟨_,rfl,Tx.mk (by decide) (by decide)⟩) (fun _=>?_)
 refine W.if (fun _=>W.bd (tY _) (fun r hr=>R9 1000 (by omega) (fun s hs=>⟨_,rfl,Tx.mk (by omega) (by omega)⟩))) (fun _=>?_)
 refine W.if (fun _=>W.bd (tY _) (fun r hr=>R9 1000 (by omega) (fun s hs=>⟨_,rfl,Tx.mk (by omega) (by omega)⟩))) (fun _=>?_)
 refine W.if (fun k=>R9 1000 (by grind) (fun s hs=>⟨_,rfl,Tx.mk (by grind) (by omega)⟩)) (fun _=>?_)
 refine W.if (fun k=>R9 1000 (by grind) (fun s hs=>⟨_,rfl,Tx.mk (by grind) (by omega)⟩)) (fun _=>?_)
 refine W.if (fun _=>W.bd (tZ _) (fun r hr=>R9 1000 (by omega) (fun s hs=>⟨_,rfl,Tx.mk (by omega) (by omega)⟩))) (fun _=>?_)
 refine W.if (fun _=>W.bd (tZ _) (fun r hr=>R9 1000 (by omega) (fun s hs=>⟨_,rfl,Tx.mk (by omega) (by omega)⟩))) (fun _=>?_)
 refine W.if (fun _=>W.bd (ue _) (fun r hr=>R9 100000 (by omega) (fun s hs=>⟨_,rfl,Tx.mk (by omega) (by omega)⟩))) (fun _=>?_)
 refine W.if (fun _=>W.bd (ue _) (fun r hr=>R9 100000 (by omega) (fun s hs=>⟨_,rfl,Tx.mk (by omega) (by omega)⟩))) (fun _=>?_)
 refine W.if (fun _=>⟨_,rfl,Tx.mk (by decide) (by decide)⟩) (fun _=>?_)
 refine W.if (fun _=>W.bd (AbB _) (fun r hr=>R9 1000000 (by omega) (fun s hs=>R9 1000000 (by omega) (fun s hs=>⟨_,rfl,Tx.mk (by omega) (by omega)⟩)))) (fun _=>?_)
 have N: ∀ (p:List UInt8),p.length<=10->m.Kind=12\/m.Kind=13->W ((CH m.N).bind fun r32=>(cat p r32).bind fun s33=>(cat s33 SX).bind fun s34=>(CH m.M).bind fun r35=>(cat s34 r35).bind fun s36=>some s36) (Tx true 200000):=fun p hp hk=>by have q:=h2 hk;refine W.bd (lb (by omega) (by omega)) (fun r hr=>R9 1000 (by omega) (fun s hs=>R9 1000 (by omega) (fun s hs=>?_)));exact W.bd (lb (by omega) (by omega)) (fun r hr=>R9 1000 (by omega) (fun s hs=>⟨_,rfl,Tx.mk (by omega) (by omega)⟩))
 refine W.if (by grind) (fun _=>?_)
 refine W.if (by grind) (fun _=>⟨_,rfl,Tx.mk (by decide) (by decide)⟩)
def yO (l:List BG):Bool:=decide (1<=l.length/\l.length<=6)&&l.all bR
theorem AbG {α:Type} [Inhabited α] {p:α->Bool} {l:List α} (h: ∀ j:Int,0<=j->j<l.length->p (l.getD j.toNat default)=true):l.all p=true:=by rw [all_eq_true];intro x hx;obtain⟨i,hi,rfl⟩:=List.mem_iff_getElem.1 hx;grind [Int.toNat_natCast]
theorem nz {r:List UInt8} (h:0<r.length):(r==[])=false:=by grind
theorem WC (l:List BG):W (Cu l) (fun r=>(r==[])= !yO l):=by
 unfold Cu yO jn;refine W.lt (fun b hb=>?_);refine W.if (fun h=>⟨_,rfl,?_⟩) (fun h=>?_)
 ·grind
 subst hb;simp only [bz]at h;rw [decide_eq_true (p:=1<=l.length/\l.length<=6) (by omega),Bool.true_and];refine W.it (fun(v:List UInt8×Int)=>0<=v.2/\v.2<=l.length/\(v.1.length:Int)<=200010*v.2/\(0<v.2->0<v.1.length)/\ ∀ j:Int,0<=j->j<v.2->bR (l.getD j.toNat default)=true) (fun v=>((l.length:Int) - v.2).toNat)
  (by grind) (by grind) (fun v hv=>?_)
 obtain⟨t,i⟩:=v;obtain⟨h1,h2,h3,h4,h5⟩:=hv;dsimp only at h1 h2 h3 h4 h5 ⊢;unfold Ji jn;have w:=A1 (x:=i+1) (by omega) (by omega);refine W.if (fun hi=>?_) (fun hi=>W.ex ?_)
 ·have hi:=of_decide_eq_true hi;refine W.bd (W.idx (by omega)) (fun e he=>?_);rw [ud];refine W.lt (fun b hb=>?_);refine W.if (fun k=>W.ex ⟨_,rfl,?_⟩) (fun k=>?_)
  ·grind
  have hm:bR e=true:=by grind
  have J: ∀ s:List UInt8,(s.length:Int)<=200010*i+2->W (Fg l i s) (LQ (fun(v:List UInt8×Int)=>0<=v.2/\v.2<=l.length/\(v.1.length:Int)<=200010*v.2/\(0<v.2->0<v.1.length)/\ ∀ j:Int,0<=j->j<v.2->bR (l.getD j.toNat default)=true) (fun v=>((l.length:Int) - v.2).toNat) (t,i)
   (fun r=>W (Sum.elim (fun o0=>KB o0) (fun o1=>some o1) r) (fun r=>(r==[])= !l.all bR))):=fun s hs=>by
   unfold Fg;refine W.bd (W.idx (by omega)) (fun e' X_=>?_);obtain rfl:e'=e:=by grind
   refine W.bd (Adu e') (fun r hr=>?_);rw [hm]at hr;have hr1:=hr.1;have hr2:0<r.length:=by have:=hr.2;grind
   refine R9 10000000 (by omega) (fun s' hs'=>?_);refine W.nx ⟨by dsimp only;omega,by dsimp only;omega,by dsimp only;omega,fun _=>by dsimp only;omega,fun j j1 j2=>?_⟩ (by dsimp only;omega);dsimp only at j2;by_cases q:j<i
   ·exact h5 j j1 q
   ·obtain rfl:j=i:=by omega
    rw [<-he.2.1];exact hm
  refine W.if (fun _=>?_) (by grind)
  have:YR.length=2:=rfl;exact R9 10000000 (by omega) (by grind)
 ·have hi:=of_decide_eq_false hi;obtain rfl:i=l.length:=by omega
  rw [AbG (p:=bR) h5];exact⟨_,rfl,nz (h4 (by omega))⟩
def ng (s:Dr):Bool:=if s.Object=false then(if s.abh then s.Filter==(⟨(0:Int),(0:Int),(0:Int),(0:Int),(0:Int),(0:Int),(0:Int),[],(0:Int),(0:Int),(⟨(0:Int),(0:Int)⟩:Ag),(⟨(0:Int),(0:Int)⟩:Ag),(⟨(0:Int),(0:Int)⟩:Ag)⟩:Am)else false)else(if ne s.Filter=true then if(if(s.Filter.F_==0)=true then true else s.Filter.F_==3) then true else s.Filter.F_==5 else false)
theorem AbH (s:Dr):Pm s=some (ng s):=by unfold Pm ng;simp only [Option.bind_some,LS];grind
def uf (p:CL):Bool:=yL p.agn&&(p.agn.X==0&&(decide (0<=p.ad4)&&decide (p.ad4<=99)))
theorem xI (p:CL):Mq p=some (uf p):=by grind [Mq,uf,Pu]
def cnB (c:Int):Bool:=decide (0<=c)&&decide (c<=2)
theorem uh (c:Int): ∃ w,LC c=some w/\(w==[])= !cnB c/\(w != [])=cnB c:=by
 unfold cnB;by_cases h:0<=c/\c<=2
 ·have:c=0\/c=1\/c=2:=by omega
  rcases this with rfl | rfl | rfl<;>exact⟨_,rfl,rfl,rfl⟩
 ·have e2:(decide (0<=c)&&decide (c<=2))=false:=by grind
  unfold LC;rw [if_neg (by simp;omega),if_neg (by simp;omega),if_neg (by simp;omega),e2];grind
theorem Adv (m:B9):T (bH m):=by
 obtain⟨w,h1, -⟩:=uh m.q_;unfold bH Za;simp only [LS,h1]
 repeat' (first | with_reducible exact Ts | simp only [*] | refine Tj (fun _=>?_) (fun _ _=>?_) | refine iO ?_ ?_ | refine Tb ?_ (fun _=>?_) | refine Tg ?_)
theorem Adw (m:ME) (s:Int):T (bG m s):=by
 unfold bG Y9 Y8 JR;simp only [LS]
 repeat' (first | with_reducible exact Ts | simp only [*] | refine Tj (fun _=>?_) (fun _ _=>?_) | refine iO ?_ ?_ | simp_all | refine Tg ?_)
theorem Adx (m:Bu):T (bE m):=by
 have hw:T (Lx m.afA):=by
  unfold Lx
  repeat' (first | with_reducible exact Ts | simp only [*] | refine Tj (fun _=>?_) (fun _ _=>?_) | refine iO ?_ ?_ | refine Tb ?_ (fun _=>?_) | refine Tg ?_)
 unfold bE Wp Hx Ix Hx;simp only [LS]
 repeat' (first | with_reducible exact Ts | simp only [*] | refine Tj (fun _=>?_) (fun _ _=>?_) | refine iO ?_ ?_ | refine Tb ?_ (fun _=>?_) | refine Tg ?_)
theorem Ady (m:Bk):T (bJ m):=by
 have hp:T (Mm m):=by
  unfold Mm
  repeat' (first | with_reducible exact Ts | simp only [*] | refine Tj (fun _=>?_) (fun _ _=>?_) | refine iO ?_ ?_ | refine Tb ?_ (fun _=>?_) | refine Tg ?_)
 have hm:T (Mt m):=by
  unfold Mt GI;simp only [LS]
  repeat' (first | with_reducible exact Ts | simp only [*] | refine Tj (fun _=>?_) (fun _ _=>?_) | refine iO ?_ ?_ | refine Tb ?_ (fun _=>?_) | refine Tg ?_)
 unfold bJ Wq GI;simp only [LS]
 repeat' (first | with_reducible exact Ts | simp only [*] | refine Tj (fun _=>?_) (fun _ _=>?_) | refine iO ?_ ?_ | refine Tb ?_ (fun _=>?_) | refine Tg ?_)
theorem pT {α:Type} [Inhabited α] (l:List α) (q:α->Bool):((List.range l.length).all fun i=>q (l.getD i default))=l.all q:=by
 rw [Bool.eq_iff_iff,all_eq_true,all_eq_true];constructor
 ·intro h x hx;obtain⟨i,hi,rfl⟩:=List.mem_iff_getElem.1 hx;simp_all
 grind
theorem AbI {α β γ:Type} [Inhabited α] {l:List α} {q:α->Bool} {c:β} {B:Int->Option (Int⊕(Unit⊕β))} {K:Option γ} {f:β->Option γ} (hn:l.length<9223372036854775807)
 (hB: ∀ (i:Nat) (h:i<l.length),B (i:Int)=some (if q l[i]=true then .inl ((i:Int)+1)else .inr (.inr c))) (hE:B (l.length:Int)=some (.inr (.inl ()))):
 (iter B FU 0).bind (Sum.elim (fun _=>K) f)=if l.all q=true then K else f c:=by
 rw [Abv (p:=fun i=>q (l.getD i default)) l.length hn (fun i hi=>by rw [hB i hi,lM hi]) hE,pT]
theorem Adz {β:Type} {b:Bool} {c:β} {i:Nat} (hi:i<9223372036854775807):(if !b then some (.inr (.inr c))else some (.inl (Aj ((i:Int)+1))):Option (Int⊕(Unit⊕β)))=some (if b then .inl ((i:Int)+1)else .inr (.inr c)):=by grind [A1]
def AbJ (a:AI) (n:Int):Bool:=(QK a n).getD false
theorem AdA (k c:Int):T (CQ k c):=by
 have hu:W (OX k) (fun u=>u.length<=3):=by
  have d15: ∀ v,W (OW v) (fun u=>u.length<=3):=fun v=>W.if (fun _=>W.rt (by decide)) (fun _=>W.rt (by decide))
  have d6: ∀ v,W (Lz k v) (fun u=>u.length<=3):=fun v=>by
   unfold Lz jn
   repeat' (first | exact d15 _ | exact W.rt (by decide) | refine W.if (fun _=>?_) (fun _=>?_))
  have d2: ∀ v,W (LA k v) (fun u=>u.length<=3):=fun v=>by
   unfold LA jn
   repeat' (first | exact d6 _ | exact W.rt (by decide) | refine W.if (fun _=>?_) (fun _=>?_))
  unfold OX jn;grind
 obtain⟨u,h,hl⟩:=hu;have hw:W (CQ k c) (fun _=>True):=by
  unfold CQ jn;rw [h];simp only [Option.bind_some];refine W.it (fun v:Int=>0<=v/\v<=u.length) (fun v=>((u.length:Int) - v).toNat) (by omega) (by omega) (fun v hv=>?_);unfold R2;refine W.if (fun hi=>W.bd (W.aaZ (by grind)) (fun e he=>W.if (fun _=>W.ex ⟨_,rfl,trivial⟩) (fun _=>?_))) (fun _=>W.ex ⟨_,rfl,trivial⟩)
  simp only [decide_eq_true_eq]at hi;grind [A1,W.nx]
 exact⟨_,hw.choose_spec.1⟩
theorem pU:((List.range 27).all fun i=>(Ly (i:Int)).isSome)=true:=by kernel_rfl
theorem AdB (a:AI) (n:Int):T (QK a n):=by
 have hw:T (Ly a.Op):=by
  by_cases hk:0<=a.Op/\a.Op<=26
  ·have t:=all_eq_true.1 pU a.Op.toNat (mem_range.2 (by omega));grind [Option.isSome_iff_exists]
  ·refine⟨[],?_⟩;unfold Ly;grind
 obtain⟨c,h1, -⟩:=uh a.q_;have hm:T (Cu a.N_):=⟨_,(WC a.N_).choose_spec.1⟩;have hu:=AdA;have h14:=Adv;have h16:=Adw;unfold QK Zb Ww Wv Wu Wt Ws NM MX Wr;simp only [LS,h1,gN,xH]
 repeat' (first | with_reducible exact Ts | simp only [*] | refine Tj (fun _=>?_) (fun _ _=>?_) | refine iO ?_ ?_ | refine Tb ?_ (fun _=>?_) | refine Tg ?_)
theorem AdC (a:AI) (n:Int):QK a n=some (AbJ a n):=Aby (AdB a n)
def ui (l:List Dr):Bool:=l.all ng
def yP (l:List AI) (n:Int):Bool:=l.all fun e=>AbJ e n
def abB (a:AB):Bool:=(J3 a).getD false
theorem xJ {l:List Dr} (h:l.length<9223372036854775807):Mu l=some (ui l&&decide (l.length<=4)):=by
 simp only [Mu,jn]
 rw [AbI (l:=l) (q:=ng) (B:=fun v=>EG l v) h (fun i h'=>by
     show EG l (i:Int)=_;unfold EG;rw [if_pos (by simpa using h'),AV h'];simp only [Option.bind_some,AbH];exact Adz (by omega)) (by
     simp_all [EG])]
 grind [Po,ui,decide]
theorem AbK {l:List AI} {n:Int} (h:l.length<9223372036854775807):Ii l n=some (yP l n&&decide (1<=l.length/\l.length<=8)):=by
 simp only [Ii,jn]
 rw [AbI (l:=l) (q:=fun e=>AbJ e n) (B:=fun v=>Du l n v) h (fun i h'=>by
     show Du l n (i:Int)=_;unfold Du;rw [if_pos (by simpa using h'),AV h'];simp only [Option.bind_some,AdC];exact Adz (by omega)) (by
     simp_all [Du])]
 grind [LR,yP,decide]
def xK (a:AB):Prop:=a.aam.length<9223372036854775807/\a.B_.length<9223372036854775807
theorem AdD {a:AB} (hl:xK a):T (J3 a):=by
 have hm:T (Cu a.N_):=⟨_,(WC a.N_).choose_spec.1⟩;have h18:=Adx;have h19:=Ady;unfold J3 Zf Ze Zd Zc;simp only [LS,xI,xJ hl.1,AbK hl.2]
 repeat' (first | with_reducible exact Ts | simp only [*] | refine Tj (fun _=>?_) (fun _ _=>?_) | refine iO ?_ ?_ | refine Tb ?_ (fun _=>?_) | refine Tg ?_)
theorem uj {a:AB} (hl:xK a):J3 a=some (abB a):=Aby (AdD hl)
def AbL (l:List (List UInt8)) (i:Nat):Bool:=tV (l.getD i default)&&(decide (i=0)||Op.bytesLess (l.getD (i - 1) default) (l.getD i default))
def WD (t:Int):Bool:=(KG .i64 t 6==0)||(t==2||t==4)
def gR (a:Ky):Bool:=decide (0<=a.ac4/\a.ac4<=3/\1<=a.Types/\a.Types<=63/\a.acJ.length<=4)&&(WD a.Types&&(List.range a.acJ.length).all (AbL a.acJ))
theorem AdE {α:Type} [Inhabited α] {l:List α} {i:Nat} (h:i<l.length) (h0:0<i) (q:i<9223372036854775807):idx l (Aj ((i:Int) - 1))=some (l.getD (i - 1) default):=by grind [A1,gK]
def yQ (t:Int):Bool:=match H9 t 1,H9 t 2 with
 | some x,some y=>((t==2||t==4)||(!x&& !y))==WD t
 | _,_=>false
theorem AbM:((List.range 64).all fun t=>yQ (t:Int))=true:=by kernel_rfl
theorem xL {t:Int} (h:1<=t/\t<=63): ∃ x y,H9 t 1=some x/\H9 t 2=some y/\((t==2||t==4)||(!x&& !y))=WD t:=by have:=all_eq_true.1 AbM t.toNat (mem_range.2 (by omega));grind [yQ]
theorem uk (a:Ky):Wm a=some (gR a):=by
 unfold gR;by_cases h:a.ac4<0\/3<a.ac4\/a.Types<1\/63<a.Types\/4<a.acJ.length
 ·simp only [Wm,jn,Option.bind_some];grind
 ·obtain⟨x,y,hx,hy,hc⟩:=xL (t:=a.Types) (by omega);have hk:=Abv (K:=QJ a) (f:=fun x=>some x) (c:=false) (p:=AbL a.acJ) (B:=fun v=>HD a v) a.acJ.length (by omega) (fun i hi=>by
   show HD a (i:Int)=_;unfold HD AbL;rw [if_pos (by simp only [bz];omega),gK hi,Ta (by omega)];simp only [Option.bind_some,Jk];by_cases h0:0<i
   ·grind [AdE,SE]
   ·obtain rfl:i=0:=by omega
    grind [gd]) (by
   simp_all [HD])
  simp only [Wm,jn,Option.bind_some];rw [if_neg (by simp only [bz];omega),hk,decide_eq_true (by omega),Bool.true_and, <-hc];unfold QJ;simp only [hx,hy,SE,Option.bind_some];grind
def AdF (c:A4):Prop:= ∀ a∈c.i_,xK a
def AbN {α:Type} (p:α->Bool) (l:List α):Int:=(l.countP p:Nat)
theorem Afg {α γ:Type} {l:List α} {q p:α->Bool} {B:Int×Int->Option ((Int×Int)⊕(Int⊕Bool))} {K:Int->Option γ} {f:Bool->Option γ} (hn:l.length<1000)
 (hB: ∀ (i:Nat) (h:i<l.length) (n:Nat),n<=i->B ((n:Int),(i:Int))=some (if q l[i]=true then .inl (((if p l[i]=true then n+1 else n:Nat):Int),(i:Int)+1)else .inr (.inr false))) (hE: ∀ n:Int,B (n,(l.length:Int))=some (.inr (.inl n))):
 (iter B FU (0,0)).bind (Sum.elim K f)=if l.all q=true then K (AbN p l)else f false:=by
 have key: ∀ (k i N n:Nat),i+k=l.length->k<N->n<=i->(iter B N ((n:Int),(i:Int))).bind (Sum.elim K f)=if(l.drop i).all q=true then K ((n+(l.drop i).countP p:Nat):Int)else f false:=by
  intro k;induction k with
  | zero=>
    intro i N n hi hN hni;obtain⟨N,rfl⟩: ∃ M,N=M+1:=⟨N - 1,by omega⟩;obtain rfl:i=l.length:=by omega
    rw [B6 (hE _)];simp
  | succ k ih=>
    intro i N n hi hN hni;obtain⟨N,rfl⟩: ∃ M,N=M+1:=⟨N - 1,by omega⟩;have hl:i<l.length:=by omega
    have h:=hB i hl n hni;rw [List.drop_eq_getElem_cons hl,List.all_cons,List.countP_cons];cases hq:q l[i]
    ·simp_all [B6]
    ·rw [hq]at h;rw [Dy h,Bool.true_and];have:=ih (i+1) N (if p l[i]=true then n+1 else n) (by omega) (by omega) (by grind);grind
 have:=key l.length 0 FU 0 (by omega) (by unfold FU;omega) (by omega);simpa [AbN] using this
def AbO (a:AB):Bool:=a.Kind==2
def zCo:AJ:=⟨0,0,⟨0,0,0,0,0⟩⟩
def ul (c:A4) (n:Int):Bool:=if KG .i64 c.acd.Types 6 != 0 then !c.Token&&(c.Keys==0&&((c.i_.length:Int)==1&&n==1))else n==0&&((!c.Token&&KG .i64 c.acd.Types 32==0)||c.ago==zCo)
def um (c:A4):Bool:=Wz c.Name&&(yL c.ago&&(gR c.acd&&(decide (0<=c.Keys/\c.Keys<=131071)&&decide (0<=c.Color/\c.Color<=31))))
def yR (c:A4):Bool:=decide (0<=c.Power/\c.Power<=99/\0<=c.aa9/\c.aa9<=99)&&(KG .i64 c.acd.Types 1 != 0||(c.Power==0&&c.aa9==0))
def up (c:A4):Bool:=um c&&(yR c&&(decide (c.i_.length<=8)&&(c.i_.all abB&&ul c (AbN AbO c.i_))))
theorem AdG {t:Int} (h:WD t=true):(KG .i64 t 6 != 0)=(t==2||t==4):=by
 unfold WD at h;by_cases h2:t=2
 ·subst h2;rfl
 ·by_cases h4:t=4
  ·subst h4;rfl
  grind
theorem rng (a b x:Int):(if decide (a<=x) then decide (x<=b)else false)=decide (a<=x/\x<=b):=by grind
theorem onn (a b:Bool):(a|| !(!a&&b))=(a|| !b):=by grind
theorem onm (a b c:Bool):(a||(!(!a&&b)&&c))=(a||(!b&&c)):=by grind
theorem AdH (c:A4) (n:Int) (h:WD c.acd.Types=true):J4 c n=some (ul c n):=by unfold J4 Wb ul;rw [show (⟨(0:Int),(0:Int),(⟨(0:Int),(0:Int),(0:Int),(0:Int),(0:Int)⟩:A5 (Int))⟩:AJ)=zCo from rfl,AdG h];simp only [Option.bind_some,yj];grind
theorem AdI {c:A4} (hl:AdF c):QL c=some (up c):=by
 unfold up;by_cases h8:c.i_.length<=8
 ·cases hL:gR c.acd
  ·simp only [QL,jn,gN,Pu,uk,Lu,rng,Option.bind_some,SE,hL];grind [um]
  ·have hc:WD c.acd.Types=true:=by simp_all [gR]
   have hk:=Afg (l:=c.i_) (q:=abB) (p:=AbO) (K:=fun n=>J4 c n) (f:=fun x=>some x) (B:=fun v=>HG c v.1 v.2) (by omega) (fun i hi n hn=>by show HG c (n:Int) (i:Int)=_;simp only [HG,Wy,jn];rw [if_pos (by simp only [bz];omega),AV hi,Ta (by omega),Ta (by omega)];simp only [Option.bind_some,uj (hl _ (List.getElem_mem hi)),AbO];grind) (by simp_all [HG])
   simp only [AdH c _ hc]at hk;simp only [QL,jn,gN,Pu,uk,Lu,rng,Option.bind_some,hk,AdH c _ hc,hL,Gd,show decide ((8:Int)<(c.i_.length:Int))=false by simp;omega,gdB,ifA,yj,ifN,ifP,bT,bF,nnB,onn,onm,aan,ltN];unfold um yR;rw [hL,decide_eq_true h8,show (KG .i64 c.acd.Types 1 != 0)= !(KG .i64 c.acd.Types 1==0)from rfl];simp only [bne,Bool.decide_and,nnB,Bool.not_or,Bool.not_and,Bool.and_assoc,Bool.true_and,Bool.not_true,Bool.or_false,Bool.false_or]
 ·simp only [QL,jn,gN,Pu,uk,Lu,rng,Option.bind_some,SE,Gd];rw [show decide ((8:Int)<(c.i_.length:Int))=true by simp;omega,decide_eq_false h8];simp
theorem AbP {α β γ:Type} [Inhabited α] {l:List α} {p:α->Bool} {c:β} {B:Int->Option (Int⊕(Unit⊕β))} {K:Option γ} {f:β->Option γ} (hn:l.length<9223372036854775807)
 (hB: ∀ (i:Nat) (h:i<l.length),B (i:Int)=some (if p l[i]=true then .inr (.inr c)else .inl ((i:Int)+1))) (hE:B (l.length:Int)=some (.inr (.inl ()))):
 (iter B FU 0).bind (Sum.elim (fun _=>K) f)=if l.any p=true then f c else K:=by
 rw [AbI (q:=fun x=> !p x) hn (fun i h=>by rw [hB i h];cases p l[i]<;>rfl) hE];grind
def uq (l:List A4) (s:List UInt8):Int:=match (List.range l.length).find? (fun i=>(l.getD i default).Name ==s)with
 | some i=>(i:Int)
 | none=> -1
theorem xM {l:List A4} (hl:l.length<=1000) (s:List UInt8):OY l s=some (uq l s):=by
 simp only [OY,RZ,jn];rw [tT (p:=fun i=>(l.getD i default).Name ==s) (f:=fun i=>(i:Int)) (B:=fun v=>FM l s v) l.length (by omega) (fun i hi=>by
  show FM l s (i:Int)=_;unfold FM;rw [if_pos (by simp only [bz];omega),gK hi,Ta (by omega)];grind) (by
  simp_all [FM])]
 grind [uq]
def xN (l:List A4) (s:List UInt8):Bool:=l.any fun t=>t.Name==s&&t.Token
theorem AdJ {l:List A4} (hl:l.length<=1000) (s:List UInt8):Mn l s=some (xN l s):=by
 simp only [Mn,OZ,jn];rw [AbP (l:=l) (p:=fun t=>t.Name==s&&t.Token) (c:=true) (B:=fun v=>Ez l s v) (by omega) (fun i hi=>by
  show Ez l s (i:Int)=_;unfold Ez;rw [if_pos (by simp only [bz];omega),AV hi,Ta (by omega)];grind [SE]) (by
  simp_all [Ez])]
 grind [xN]
def xO (l:List A4) (e:AI):Bool:=e.Op==12&& !xN l e.abF
def lg (l:List A4) (c:A4):Bool:=c.i_.any fun a=>a.B_.any (xO l)
def AdK (c:A4):Prop:=c.i_.length<9223372036854775807/\AdF c
theorem pV {l:List A4} (hl:l.length<=1000) {c:A4} (hc:AdK c):If l c=some (!lg l c):=by
 simp only [If,LF,jn];rw [AbP (p:=fun a=>a.B_.any (xO l)) (c:=false) (B:=fun v=>Dt l c v) hc.1 (fun i hi=>by
  show Dt l c (i:Int)=_;have he:=(hc.2 _ (List.getElem_mem hi)).2;have hlen:=hc.1;simp only [Dt,LG,jn];rw [if_pos (by simp only [bz];omega),Ta (by omega)];rw [AbP (p:=xO l) (c:=false) (B:=fun v=>CR l c (i:Int) v) he (fun k hk=>by
   show CR l c (i:Int) (k:Int)=_;unfold CR;rw [AV hi];simp only [Option.bind_some];rw [if_pos (by simp only [bz];omega),AV hk,Ta (by omega)];rw [show xO l c.i_[i].B_[k]=(c.i_[i].B_[k].Op ==12&& !xN l c.i_[i].B_[k].abF)from rfl];grind [AdJ,SE]) (by
   simp_all [CR,AV])]
  grind) (by
  simp_all [Dt])]
 grind [lg]
def gS (l:List A4) (i:Nat):Option Int:=if !up (l.getD i default) then some 9 else if uq l (l.getD i default).Name <(i:Int)then some 6 else if lg l (l.getD i default)=true then some 7 else none
def ur (l:List A4):Int×Int:=if 256<l.length then(-1,5)else match (List.range l.length).find? (fun i=>(gS l i).isSome)with
 | some i=>((i:Int),(gS l i).getD 0)
 | none=>(-1,0)
def gT (l:List A4):Prop:= ∀ c∈l,AdK c
theorem ut {l:List A4} (hc:gT l):Jj l=some (ur l):=by
 unfold ur;by_cases hl:256<l.length
 ·unfold Jj;grind
 ·simp only [Jj,Pq,jn];rw [if_neg (by simp only [bz];omega),if_neg hl,tT (p:=fun i=>(gS l i).isSome) (f:=fun i=>((i:Int),(gS l i).getD 0)) (B:=fun v=>EH l v) l.length (by omega) (fun i hi=>by
   show EH l (i:Int)=_;unfold EH gS;rw [if_pos (by simp only [bz];omega),gK hi,Ta (by omega)];have hm:=hc _ (dy hi);generalize l.getD i default=c at hm;simp only [Option.bind_some,AdI hm.2,xM (l:=l) (by omega),pV (l:=l) (by omega) hm,decide_eq_true_eq];grind) (by
   simp_all [EH])]
  grind
end Go.PL
