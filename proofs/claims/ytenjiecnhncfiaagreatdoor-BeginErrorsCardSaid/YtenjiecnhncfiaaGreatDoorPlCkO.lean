/- Plain laws of states: the reference's texts answer. -/
import Derived.Test.YtenjiecnhncfiaaGreatDoorPlCkN
import Derived.Test.YtenjiecnhncfiaaGreatDoorPlPltoPlPx
namespace Go.PL
open Go
set_option maxRecDepth 100000
set_option linter.all false
set_option maxHeartbeats 1000000
theorem nW (a b:Int) (hb:b<=1000):W (Lj a b) (fun _=>True):=by unfold Lj jn;exact wMk (B:=fun m k=>bJ b m k) (g:=fun m=>Ad (Int.tdiv m 2)) b hb (fun m k=>rfl) (fun m=>⟨_,rfl,trivial⟩)
theorem sV:((List.range 6).all fun i=>vy 40 (Jk (i:Int)))=true:=by kernel_rfl
theorem yv:((List.range 5).all fun i=>vy 40 (Pg (i:Int)))=true:=by kernel_rfl
theorem yw:((List.range 17).all fun i=>vy 40 (T0 (i:Int)))=true:=by kernel_rfl
theorem AeI:((List.range 64).all fun i=>vy 60 (Dm (i:Int)))=true:=by kernel_rfl
theorem AeJ:((List.range 32).all fun i=>vy 60 (Mv (i:Int)))=true:=by kernel_rfl
theorem yx (a:Int):W (Dm a) (fun r=>r.length<=60):=by
 by_cases h:0<=a/\a<=63
 ·exact ql AeI h.1 (by omega)
 ·have:(if decide (a<1) then true else decide (63<a))=true:=by simp only [bz];omega
  unfold Dm;simp only [Option.bind_some];rw [if_pos this];exact⟨_,rfl,by simp⟩
theorem yz (a:Int):W (Mv a) (fun r=>r.length<=60):=by
 by_cases h:0<=a/\a<=31
 ·exact ql AeJ h.1 (by omega)
 ·have:jZ a=some false:=by unfold jZ;simp;omega
  unfold Mv jn;rw [this];exact⟨_,rfl,by simp⟩
theorem rk {a:Int} (h0: -9223372036854775808<=a) (h1:a<=9223372036854775807):W (Dy a) (fun r=>r.length<=21):=
 ⟨_,(show Dy a=sG a from rfl).trans (mN h0 h1),SQ h0 h1⟩
theorem vd {l:List (List UInt8)} {sep:List UInt8} (h:LB 60 l) (hs:sep.length<=10):W (TP l sep) (fun r=>r.length<=37000):=by
 unfold TP jn;have hl:=h.1;refine W.it (fun v=>0<=v.2/\v.2<=l.length/\(v.1.length:Int)<=610*v.2) (fun v=>((l.length:Int) - v.2).toNat) ⟨by simp,by simp,by simp⟩ (by dsimp only;omega) (fun v hv=>?_);obtain⟨s,i⟩:=v;dsimp only at hv ⊢;unfold Xe jn;have J: ∀ s:List UInt8,(s.length:Int)<=610*i+10->i<l.length->W (Ny l i s) (LQ (fun v=>0<=v.2/\v.2<=l.length/\(v.1.length:Int)<=610*v.2) (fun v=>((l.length:Int) - v.2).toNat) (s,i) (fun r=>W (Xd r) (fun r=>r.length<=37000))):=fun s hs hi=>by unfold Ny;refine W.bd (W.idx (by omega)) (fun e he=>?_);have:=h.2 e he.1;refine Hr 100000 (by omega) (fun s' hs'=>?_);have:=AU (x:=i+1) (by omega) (by omega);exact W.nx (by dsimp only;omega) (by dsimp only;omega)
 refine W.if (fun hi=>?_) (fun _=>W.ex ⟨_,rfl,by omega⟩)
 have hi:=of_decide_eq_true hi;refine W.if (fun _=>?_) (fun _=>?_)
 ·refine Hr 100000 (by omega) (fun s' hs'=>?_);have:=J s' (by omega) hi;exact this
 ·exact J s (by omega) hi
theorem wIx {l:List (List UInt8)} {b:Nat} {i:Int} (h:0<=i/\i<l.length) (hb:(l.all fun w=>Nat.ble w.length b)=true):W (idx l i) (fun e=>e.length<=b):=
 (W.idx h).imp fun e he=>Nat.le_of_ble_eq_true (List.all_eq_true.1 hb e he.1)
def ve (b:Af):Prop:=0<=b.Kind/\b.Kind<=3/\0<=b.N/\b.N<=1000000
theorem cP {a:List UInt8} {b:Af} (ha:a.length<=10) (hb:ve b):W (D0 a b) (fun r=>r.length<=600):=by
 obtain⟨h1,h2,h3,h4⟩:=hb;unfold D0;refine W.if (fun _=>⟨_,rfl,by simp⟩) (fun hk=>?_)
 refine W.re (v:=[([]:List UInt8),Vu,Vv,jC]) rfl ?_;refine W.bd (wIx (b:=10) (by simp;omega) (by kernel_rfl)) (fun e he=>?_);refine Hr 100 (by omega) (fun s hs=>?_);refine W.bd (rk (by omega) (by omega)) (fun r hr=>?_);exact Hr 100 (by omega) (fun s hs=>⟨_,rfl,by omega⟩)
theorem hH {s:List UInt8} (h:IE s=true):s.length<=32:=by unfold IE at h;rw [Bool.and_eq_true,decide_eq_true_eq]at h;exact h.1.2.1
theorem cQ {b:Af} (h:NP b=true):ve b:=by unfold NP at h;simp only [Bool.and_eq_true,decide_eq_true_eq]at h;exact⟨h.1.1,h.1.2,h.2.1.1,h.2.1.2⟩
structure FOK (f:Aj):Prop where
 z:0<=f.q_/\f.q_<=5
 w:0<=f.Who/\f.Who<=2
 s:0<=f.Self/\f.Self<=2
 t:0<=f.Tap/\f.Tap<=2
 k:0<=f.Keys/\f.Keys<=131071
 y:0<=f.Types/\f.Types<=63/\0<=f.w_/\f.w_<=63
 c:0<=f.Tj/\f.Tj<=31/\0<=f.r_/\f.r_<=31
 b:f.Sub.length<=32
 p:ve f.Power
 q:ve f.v_
 v:ve f.Value
theorem sW {f:Aj} (h:Lo f=true):FOK f:=by
 have e:=Ct f;rw [h]at e;unfold BX at e;have e1: ∀ x:Int,(x != 0)= !(x==0):=fun x=>rfl;simp only [Option.bind_some,Xr,V9,Qj,oC,Vp,SR,oD,sK,bT,bF,nnB,aoU,oon,aan,oan,Bool.not_or,Bool.not_and,Bool.and_assoc,e1,Option.some.injEq,Bool.and_eq_true,decide_eq_true_eq]at e;obtain⟨k1,k2,k3,k4,k5,k6,k7,k8,k9,k10,k11,k12,k13,k14, -,k15,k16,k17,k18, -,k19,k20,k21,k22⟩:=e;refine⟨⟨k1,k2⟩,⟨k3,k4⟩,⟨k5,k6⟩,⟨k7,k8⟩,⟨k9,k10⟩,⟨k11,k12,k13,k14⟩,⟨k15,k16,k17,k18⟩,?_,cQ k20,cQ k21,cQ k22⟩;by_cases hs:f.Sub=[]
 ·rw [hs];decide
 ·have:V8 f.Sub=true:=by simpa [hs] using k19
  unfold V8 at this;rw [Bool.and_eq_true]at this;exact hH this.1
theorem AeK (f:Aj):W (Uk f) (fun r=>r.length<=37000):=by
 unfold Uk jn;rw [PF];refine W.lt (fun b hb=>?_);refine W.if (fun _=>⟨_,rfl,by simp⟩) (fun h=>?_)
 have F:=sW (f:=f) (by subst hb;simpa using h);clear h hb b;refine W.re (v:=[([]:List UInt8),Pb,Ku,Hw,Nm,Nn]) rfl ?_;refine W.re (v:=[([]:List UInt8),Vs,RB]) rfl ?_;refine W.re (v:=[([]:List UInt8),bb,Vt]) rfl ?_;refine W.re (v:=[([]:List UInt8),No,Je]) rfl ?_;have z:=F.z;have w:=F.w;have s:=F.s;have t:=F.t;have b:=F.b;refine W.bd (wIx (b:=600) (by simp;omega) (by kernel_rfl)) (fun e he=>?_);refine wTs (k:=0) LB.nil he (fun l hl=>?_);clear he e;unfold Xm jn;refine W.bd (wIx (b:=600) (by simp;omega) (by kernel_rfl)) (fun e he=>?_);refine wTs hl he (fun l hl=>?_);clear he e;unfold Uj jn;refine W.bd (wIx (b:=600) (by simp;omega) (by kernel_rfl)) (fun e he=>?_);refine wTs hl he (fun l hl=>?_);clear he e;unfold Ui jn;refine xR (B:=LH f) 6 hl (fun _=>rfl) (fun i m l hi hm hl=>?_) (fun l hl=>?_)
 ·unfold LH jn;rw [if_pos (by simp only [bz];omega)];refine W.bd (nW _ _ (by omega)) (fun r _=>?_);refine W.if (fun _=>?_) (fun _=>oE (hl.le (by omega)))
  refine W.bd (uS sV hi) (fun x hx=>?_);exact xQ hl (by omega) (fun l hl=>oE hl)
 unfold Uh jn;refine xR (B:=LG f) 6 hl (fun _=>rfl) (fun i m l hi hm hl=>?_) (fun l hl=>?_)
 ·unfold LG jn;rw [if_pos (by simp only [bz];omega)];refine W.bd (nW _ _ (by omega)) (fun r _=>?_);refine W.if (fun _=>?_) (fun _=>oE (hl.le (by omega)))
  refine W.bd (uS sV hi) (fun x hx=>?_);refine Hr 100 (by have:GG.length=4:=rfl;omega) (fun x hx=>?_);exact xQ hl (by have:GG.length=4:=rfl;omega) (fun l hl=>oE hl)
 unfold Ug jn;refine xR (B:=NK f) 5 hl (fun _=>rfl) (fun i m l hi hm hl=>?_) (fun l hl=>?_)
 ·unfold NK jn;rw [if_pos (by simp only [bz];omega)];refine W.bd (nW _ _ (by omega)) (fun r _=>?_);refine W.if (fun _=>?_) (fun _=>oE (hl.le (by omega)))
  refine W.bd (uS yv hi) (fun x hx=>?_);exact xQ hl (by omega) (fun l hl=>oE hl)
 unfold Uf jn;refine xR (B:=NJ f) 5 hl (fun _=>rfl) (fun i m l hi hm hl=>?_) (fun l hl=>?_)
 ·unfold NJ jn;rw [if_pos (by simp only [bz];omega)];refine W.bd (nW _ _ (by omega)) (fun r _=>?_);refine W.if (fun _=>?_) (fun _=>oE (hl.le (by omega)))
  refine W.bd (uS yv hi) (fun x hx=>?_);refine Hr 100 (by have:GG.length=4:=rfl;omega) (fun x hx=>?_);exact xQ hl (by have:GG.length=4:=rfl;omega) (fun l hl=>oE hl)
 unfold Ue jn;have J: ∀ l,LB 26 l->W (NI f [([]:List UInt8),No,Je] l) (fun r=>r.length<=37000):=fun l hl=>by
  unfold NI jn;refine xR (B:=NH f) 17 hl (fun _=>rfl) (fun i m l hi hm hl=>?_) (fun l hl=>?_)
  ·unfold NH jn;rw [if_pos (by simp only [bz];omega)];refine W.bd (nW _ _ (by omega)) (fun r _=>?_);refine W.if (fun _=>?_) (fun _=>oE (hl.le (by omega)))
   refine W.bd (uS yw hi) (fun x hx=>?_);refine Hr 100 (by have:Mh.length=5:=rfl;omega) (fun x hx=>?_);exact xQ hl (by have:Mh.length=5:=rfl;omega) (fun l hl=>oE hl)
  unfold Ud jn;refine W.bd (wIx (b:=600) (by simp;omega) (by kernel_rfl)) (fun e he=>?_);refine wTs hl he (fun l hl=>?_);unfold Uc jn;refine W.bd (cP (by decide) F.p) (fun e he=>?_);refine wTs hl he (fun l hl=>?_);unfold Ub jn;refine W.bd (cP (by decide) F.q) (fun e he=>?_);refine wTs hl he (fun l hl=>?_);unfold Ua jn;refine W.bd (cP (by decide) F.v) (fun e he=>?_);refine wTs hl he (fun l hl=>?_);unfold T9;refine W.if (fun _=>⟨_,rfl,by decide⟩) (fun _=>?_)
  exact W.bd (vd (hl.le (by omega)) (by decide)) (fun r hr=>⟨r,rfl,hr⟩)
 refine W.if (fun _=>?_) (fun _=>J _ (hl.le (by omega)))
 have:HR.length=4:=rfl;refine Hr 100 (by omega) (fun x hx=>?_);exact xQ hl (by omega) (fun l hl=>J l (hl.le (by omega)))
end Go.PL
