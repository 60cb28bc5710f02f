/- Plain laws of states: the reference's texts answer. -/
import Derived.Test.YteginlijmbcopaaGreatDoorPlCkN
import Derived.Test.YteginlijmbcopaaGreatDoorTvtoPlPx
namespace Go.PL
open Go
set_option maxRecDepth 100000
set_option linter.all false
set_option maxHeartbeats 1000000
theorem pJ (a b:Int) (hb:b<=1000):W (Lx a b) (fun _=>True):=by unfold Lx jn;exact wMk (B:=fun m k=>bO b m k) (g:=fun m=>Aa (Int.tdiv m 2)) b hb (fun m k=>rfl) (fun m=>⟨_,rfl,trivial⟩)
theorem uK:((List.range 6).all fun i=>xr 40 (Jt (i:Int)))=true:=by kernel_rfl
theorem Aal:((List.range 5).all fun i=>xr 40 (Ps (i:Int)))=true:=by kernel_rfl
theorem Aam:((List.range 17).all fun i=>xr 40 (Ug (i:Int)))=true:=by kernel_rfl
theorem Agv:((List.range 64).all fun i=>xr 60 (Dj (i:Int)))=true:=by kernel_rfl
theorem Agw:((List.range 32).all fun i=>xr 60 (MK (i:Int)))=true:=by kernel_rfl
theorem Aan (a:Int):W (Dj a) (fun r=>r.length<=60):=by
 by_cases h:0<=a/\a<=63
 ·exact rS Agv h.1 (by omega)
 ·have:(if decide (a<1) then true else decide (63<a))=true:=by grind
  unfold Dj;simp only [Option.bind_some];rw [if_pos this];exact⟨_,rfl,by simp⟩
theorem Aao (a:Int):W (MK a) (fun r=>r.length<=60):=by
 by_cases h:0<=a/\a<=31
 ·exact rS Agw h.1 (by omega)
 ·have:kQ a=some false:=by unfold kQ;simp;omega
  unfold MK jn;rw [this];exact⟨_,rfl,by simp⟩
theorem sW {a:Int} (h0: -9223372036854775808<=a) (h1:a<=9223372036854775807):W (Dw a) (fun r=>r.length<=21):=
 ⟨_,(show Dw a=uu a from rfl).trans (om h0 h1),S7 h0 h1⟩
theorem xd {l:List (List UInt8)} {sep:List UInt8} (h:LB 60 l) (hs:sep.length<=10):W (T5 l sep) (fun r=>r.length<=37000):=by
 unfold T5 jn;have hl:=h.1;refine W.it (fun v=>0<=v.2/\v.2<=l.length/\(v.1.length:Int)<=610*v.2) (fun v=>((l.length:Int) - v.2).toNat) (by grind) (by grind) (fun v hv=>?_);obtain⟨s,i⟩:=v;dsimp only at hv ⊢;unfold Xx jn;have J: ∀ s:List UInt8,(s.length:Int)<=610*i+10->i<l.length->W (NH l i s) (LQ (fun v=>0<=v.2/\v.2<=l.length/\(v.1.length:Int)<=610*v.2) (fun v=>((l.length:Int) - v.2).toNat) (s,i) (fun r=>W (Xw r) (fun r=>r.length<=37000))):=fun s hs hi=>by unfold NH;refine W.bd (W.idx (by omega)) (fun e he=>?_);have:=h.2 e he.1;refine HD 100000 (by omega) (fun s' hs'=>?_);grind [A7,W.nx]
 refine W.if (fun hi=>?_) (fun _=>W.ex ⟨_,rfl,by omega⟩)
 have hi:=of_decide_eq_true hi;refine W.if (fun _=>?_) (fun _=>?_)
 ·refine HD 100000 (by omega) (fun s' hs'=>?_);have:=J s' (by omega) hi;exact this
 grind
theorem wIx {l:List (List UInt8)} {b:Nat} {i:Int} (h:0<=i/\i<l.length) (hb:(l.all fun w=>Nat.ble w.length b)=true):W (idx l i) (fun e=>e.length<=b):=
 (W.idx h).imp (by simp_all)
def xe (b:Ac):Prop:=0<=b.Kind/\b.Kind<=3/\0<=b.N/\b.N<=1000000
theorem cV {a:List UInt8} {b:Ac} (ha:a.length<=10) (hb:xe b):W (D2 a b) (fun r=>r.length<=600):=by
 obtain⟨h1,h2,h3,h4⟩:=hb;unfold D2;refine W.if (fun _=>⟨_,rfl,by simp⟩) (fun hk=>?_)
 refine W.re (v:=[([]:List UInt8),VH,VI,kp]) rfl ?_;refine W.bd (wIx (b:=10) (by simp;omega) (by kernel_rfl)) (fun e he=>?_);refine HD 100 (by omega) (fun s hs=>?_);refine W.bd (sW (by omega) (by omega)) (fun r hr=>?_);exact HD 100 (by omega) (fun s hs=>⟨_,rfl,by omega⟩)
theorem iL {s:List UInt8} (h:OC s=true):s.length<=32:=by simp_all [OC]
theorem cW {b:Ac} (h:N3 b=true):xe b:=by unfold N3 at h;simp only [Bool.and_eq_true,decide_eq_true_eq]at h;exact⟨h.1.1,h.1.2,h.2.1.1,h.2.1.2⟩
structure FOK (f:Ag):Prop where
 z:0<=f.AT/\f.AT<=5
 w:0<=f.Who/\f.Who<=2
 s:0<=f.Self/\f.Self<=2
 t:0<=f.Tap/\f.Tap<=2
 k:0<=f.Keys/\f.Keys<=131071
 y:0<=f.Types/\f.Types<=63/\0<=f.abw/\f.abw<=63
 c:0<=f.adM/\f.adM<=31/\0<=f.aaZ/\f.aaZ<=31
 b:f.Sub.length<=32
 p:xe f.Power
 q:xe f.abv
 v:xe f.Value
theorem uL {f:Ag} (h:Q5 f=true):FOK f:=by
 have e:=Cw f;rw [h]at e;unfold B0 at e;have e1: ∀ x:Int,(x != 0)= !(x==0):=fun x=>rfl;simp only [Option.bind_some,XK,Wp,Qz,qe,dc,ba,qf,ux,bT,bF,nnB,ap5,oon,aan,oan,Bool.not_or,Bool.not_and,Bool.and_assoc,e1,Option.some.injEq,Bool.and_eq_true,decide_eq_true_eq]at e;obtain⟨k1,k2,k3,k4,k5,k6,k7,k8,k9,k10,k11,k12,k13,k14, -,k15,k16,k17,k18, -,k19,k20,k21,k22⟩:=e;refine⟨⟨k1,k2⟩,⟨k3,k4⟩,⟨k5,k6⟩,⟨k7,k8⟩,⟨k9,k10⟩,(by grind),(by grind),?_,cW k20,cW k21,cW k22⟩;by_cases hs:f.Sub=[]
 all_goals simp_all [pH,iL]
theorem Agx (f:Ag):W (Uz f) (fun r=>r.length<=37000):=by
 unfold Uz jn;rw [PW];refine W.lt (fun b hb=>?_);refine W.if (fun _=>⟨_,rfl,by simp⟩) (fun h=>?_)
 have F:=uL (f:=f) (by subst hb;simpa using h);clear h hb b;refine W.re (v:=[([]:List UInt8),Pn,KC,HI,Nv,Nw]) rfl ?_;refine W.re (v:=[([]:List UInt8),VF,RW]) rfl ?_;refine W.re (v:=[([]:List UInt8),bi,VG]) rfl ?_;refine W.re (v:=[([]:List UInt8),Ny,Jn]) rfl ?_;have z:=F.z;have w:=F.w;have s:=F.s;have t:=F.t;have b:=F.b;refine W.bd (wIx (b:=600) (by simp;omega) (by kernel_rfl)) (fun e he=>?_);refine wTs (k:=0) LB.nil he (fun l hl=>?_);clear he e;unfold XF jn;refine W.bd (wIx (b:=600) (by simp;omega) (by kernel_rfl)) (fun e he=>?_);refine wTs hl he (fun l hl=>?_);clear he e;unfold Uy jn;refine W.bd (wIx (b:=600) (by simp;omega) (by kernel_rfl)) (fun e he=>?_);refine wTs hl he (fun l hl=>?_);clear he e;unfold Ux jn;refine zJ (B:=LZ f) 6 hl (fun _=>rfl) (fun i m l hi hm hl=>?_) (fun l hl=>?_)
 ·unfold LZ jn;rw [if_pos (by simp only [bz];omega)];refine W.bd (pJ _ _ (by omega)) (fun r _=>?_);refine W.if (fun _=>?_) (fun _=>qg (hl.le (by omega)))
  refine W.bd (wV uK hi) (fun x hx=>?_);exact zI hl (by omega) (fun l hl=>qg hl)
 unfold Uw jn;refine zJ (B:=LY f) 6 hl (fun _=>rfl) (fun i m l hi hm hl=>?_) (fun l hl=>?_)
 ·unfold LY jn;rw [if_pos (by simp only [bz];omega)];refine W.bd (pJ _ _ (by omega)) (fun r _=>?_);refine W.if (fun _=>?_) (fun _=>qg (hl.le (by omega)))
  refine W.bd (wV uK hi) (fun x hx=>?_);refine HD 100 (by have:GI.length=4:=rfl;omega) (fun x hx=>?_);exact zI hl (by have:GI.length=4:=rfl;omega) (fun l hl=>qg hl)
 unfold Uv jn;refine zJ (B:=NX f) 5 hl (fun _=>rfl) (fun i m l hi hm hl=>?_) (fun l hl=>?_)
 ·unfold NX jn;rw [if_pos (by simp only [bz];omega)];refine W.bd (pJ _ _ (by omega)) (fun r _=>?_);refine W.if (fun _=>?_) (fun _=>qg (hl.le (by omega)))
  refine W.bd (wV Aal hi) (fun x hx=>?_);exact zI hl (by omega) (fun l hl=>qg hl)
 unfold Uu jn;refine zJ (B:=NW f) 5 hl (fun _=>rfl) (fun i m l hi hm hl=>?_) (fun l hl=>?_)
 ·unfold NW jn;rw [if_pos (by simp only [bz];omega)];refine W.bd (pJ _ _ (by omega)) (fun r _=>?_);refine W.if (fun _=>?_) (fun _=>qg (hl.le (by omega)))
  refine W.bd (wV Aal hi) (fun x hx=>?_);refine HD 100 (by have:GI.length=4:=rfl;omega) (fun x hx=>?_);exact zI hl (by have:GI.length=4:=rfl;omega) (fun l hl=>qg hl)
 unfold Ut jn;have J: ∀ l,LB 26 l->W (NV f [([]:List UInt8),Ny,Jn] l) (fun r=>r.length<=37000):=fun l hl=>by
  unfold NV jn;refine zJ (B:=NU f) 17 hl (fun _=>rfl) (fun i m l hi hm hl=>?_) (fun l hl=>?_)
  ·unfold NU jn;rw [if_pos (by simp only [bz];omega)];refine W.bd (pJ _ _ (by omega)) (fun r _=>?_);refine W.if (fun _=>?_) (fun _=>qg (hl.le (by omega)))
   refine W.bd (wV Aam hi) (fun x hx=>?_);refine HD 100 (by have:Mw.length=5:=rfl;omega) (fun x hx=>?_);exact zI hl (by have:Mw.length=5:=rfl;omega) (fun l hl=>qg hl)
  unfold Us jn;refine W.bd (wIx (b:=600) (by simp;omega) (by kernel_rfl)) (fun e he=>?_);refine wTs hl he (fun l hl=>?_);unfold Ur jn;refine W.bd (cV (by decide) F.p) (fun e he=>?_);refine wTs hl he (fun l hl=>?_);unfold Uq jn;refine W.bd (cV (by decide) F.q) (fun e he=>?_);refine wTs hl he (fun l hl=>?_);unfold Up jn;refine W.bd (cV (by decide) F.v) (fun e he=>?_);refine wTs hl he (fun l hl=>?_);unfold Uo;refine W.if (fun _=>⟨_,rfl,by decide⟩) (fun _=>?_)
  exact W.bd (xd (hl.le (by omega)) (by decide)) (fun r hr=>⟨r,rfl,hr⟩)
 refine W.if (fun _=>?_) (fun _=>J _ (hl.le (by omega)))
 have:HY.length=4:=rfl;refine HD 100 (by omega) (fun x hx=>?_);grind [zI]
end Go.PL
