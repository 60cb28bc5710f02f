/- Plain laws of states: the reference's texts answer. -/
import Derived.Test.YtelbpfkjhndccaaGreatDoorPlSbN
import Derived.Test.YtelbpfkjhndccaaGreatDoorPlPktoPlPx
namespace Go.PL
open Go
set_option maxRecDepth 100000
set_option linter.all false
set_option maxHeartbeats 1000000
theorem db (a b:Int) (hb:b≤1000):W (Mw a b) (fun _=>True):=by
 unfold Mw
 exact ve (B:=fun m k=>Pw b m k) (g:=fun m=>Ab (Int.tdiv m 2)) b hb (fun m k=>rfl) (fun m=>⟨_,rfl,trivial⟩)
theorem ij:((List.range 6).all fun i=>ky 40 (KD (i:Int)))=true:=by kernel_rfl
theorem mf:((List.range 5).all fun i=>ky 40 (OR (i:Int)))=true:=by kernel_rfl
theorem mg:((List.range 17).all fun i=>ky 40 (Qx (i:Int)))=true:=by kernel_rfl
theorem ro:((List.range 64).all fun i=>ky 60 (EI (i:Int)))=true:=by kernel_rfl
theorem rp:((List.range 32).all fun i=>ky 60 (Nx (i:Int)))=true:=by kernel_rfl
theorem mh (a:Int):W (EI a) (fun r=>r.length≤60):=by
 by_cases h:0≤a∧a≤63
 ·exact fc ro h.1 (by omega)
 ·have:(if decide (a<1)=true then true else decide (63<a))=true:=by simp only [bz];omega
  unfold EI
  simp only [Option.bind_some]
  rw [if_pos this]
  exact⟨_,rfl,by simp⟩
theorem mi (a:Int):W (Nx a) (fun r=>r.length≤60):=by
 by_cases h:0≤a∧a≤31
 ·exact fc rp h.1 (by omega)
 ·have:WD a=some false:=by
   unfold WD
   simp
   omega
  unfold Nx
  rw [this]
  exact⟨_,rfl,by simp⟩
theorem fU {a:Int} (h0: -9223372036854775808≤a) (h1:a≤9223372036854775807):W (FC a) (fun r=>r.length≤21):=
 ⟨_,(show FC a=gS a from rfl).trans (bt h0 h1),Sx h0 h1⟩
theorem jP {l:List (List UInt8)} {sep:List UInt8} (h:LB 60 l) (hs:sep.length≤10):W (Qt l sep) (fun r=>r.length≤37000):=by
 unfold Qt
 have hl:=h.1
 refine W.it (fun v=>0≤v.2∧v.2≤l.length∧(v.1.length:Int)≤610*v.2) (fun v=>((l.length:Int) - v.2).toNat) ⟨by simp,by simp,by simp⟩ (by dsimp only;omega) (fun v hv=>?_)
 obtain⟨s,i⟩:=v
 dsimp only at hv ⊢
 unfold NX
 have J: ∀ s:List UInt8,(s.length:Int)≤610*i+10→i<l.length→W (GU l i s) (LQ (fun v=>0≤v.2∧v.2≤l.length∧(v.1.length:Int)≤610*v.2) (fun v=>((l.length:Int) - v.2).toNat) (s,i) (fun r=>W (LP r) (fun r=>r.length≤37000))):=fun s hs hi=>by
  unfold GU
  refine W.bd (W.idx (by omega)) (fun e he=>?_)
  have:=h.2 e he.1
  refine KX 100000 (by omega) (fun s' hs'=>?_)
  have:=BD (x:=i+1) (by omega) (by omega)
  exact W.nx (by dsimp only;omega) (by dsimp only;omega)
 refine W.if (fun hi=>?_) (fun _=>W.ex ⟨_,rfl,by omega⟩)
 have hi:=of_decide_eq_true hi
 refine W.if (fun _=>?_) (fun _=>?_)
 ·refine KX 100000 (by omega) (fun s' hs'=>?_)
  have:=J s' (by omega) hi
  exact this
 ·exact J s (by omega) hi
theorem oc {l:List (List UInt8)} {b:Nat} {i:Int} (h:0≤i∧i<l.length) (hb:(l.all fun w=>Nat.ble w.length b)=true):W (idx l i) (fun e=>e.length≤b):=
 (W.idx h).imp fun e he=>Nat.le_of_ble_eq_true (List.all_eq_true.1 hb e he.1)
def jQ (b:Ac):Prop:=0≤b.Kind∧b.Kind≤3∧0≤b.N∧b.N≤1000000
theorem W6 {a:List UInt8} {b:Ac} (ha:a.length≤10) (hb:jQ b):W (FW a b) (fun r=>r.length≤600):=by
 obtain⟨h1,h2,h3,h4⟩:=hb
 unfold FW
 refine W.if (fun _=>⟨_,rfl,by simp⟩) (fun hk=>?_)
 refine W.re (v:=[([]:List UInt8),JY,JZ,NR]) rfl ?_
 refine W.bd (oc (b:=10) (by simp;omega) (by kernel_rfl)) (fun e he=>?_)
 refine KX 100 (by omega) (fun s hs=>?_)
 refine W.bd (fU (by omega) (by omega)) (fun r hr=>?_)
 exact KX 100 (by omega) (fun s hs=>⟨_,rfl,by omega⟩)
theorem YH {s:List UInt8} (h:NA s=true):s.length≤32:=by
 unfold NA at h
 rw [Bool.and_eq_true,decide_eq_true_eq]at h
 exact h.1.2.1
theorem W7 {b:Ac} (h:PD b=true):jQ b:=by
 unfold PD at h
 simp only [Bool.and_eq_true,decide_eq_true_eq]at h
 exact⟨h.1.1,h.1.2,h.2.1.1,h.2.1.2⟩
structure vf (f:Ag):Prop where
 z:0≤f.Zone∧f.Zone≤5
 w:0≤f.Who∧f.Who≤2
 s:0≤f.Self∧f.Self≤2
 t:0≤f.Tap∧f.Tap≤2
 k:0≤f.Keys∧f.Keys≤131071
 y:0≤f.Types∧f.Types≤63∧0≤f.NotTypes∧f.NotTypes≤63
 c:0≤f.Colors∧f.Colors≤31∧0≤f.NotColors∧f.NotColors≤31
 b:f.Sub.length≤32
 p:jQ f.Power
 q:jQ f.Tough
 v:jQ f.Value
theorem ik {f:Ag} (h:N1 f=true):vf f:=by
 have e:=Ed f
 rw [h]at e
 unfold C4 at e
 have e1: ∀ x:Int,(x != 0)= !(x==0):=fun x=>rfl
 simp only [Option.bind_some,W5,T6,Rb,Sd,Ph,PP,aq,ku,bT,bF,ta,aas',ue,uZ,se,Bool.not_or,Bool.not_and,Bool.and_assoc,e1,Option.some.injEq,Bool.and_eq_true,decide_eq_true_eq]at e
 obtain⟨k1,k2,k3,k4,k5,k6,k7,k8,k9,k10,k11,k12,k13,k14, -,k15,k16,k17,k18, -,k19,k20,k21,k22⟩:=e
 refine⟨⟨k1,k2⟩,⟨k3,k4⟩,⟨k5,k6⟩,⟨k7,k8⟩,⟨k9,k10⟩,⟨k11,k12,k13,k14⟩,⟨k15,k16,k17,k18⟩,?_,W7 k20,W7 k21,W7 k22⟩
 by_cases hs:f.Sub=[]
 ·rw [hs];decide
 ·have:c8 f.Sub=true:=by simpa [hs] using k19
  unfold c8 at this
  rw [Bool.and_eq_true]at this
  exact YH this.1
theorem rq (f:Ag):W (QE f) (fun r=>r.length≤37000):=by
 unfold QE
 rw [QN]
 refine W.lt (fun b hb=>?_)
 refine W.if (fun _=>⟨_,rfl,by simp⟩) (fun h=>?_)
 have F:=ik (f:=f) (by subst hb;simpa using h)
 clear h hb b
 refine W.re (v:=[([]:List UInt8),JX,F3,EP,Ic,Ie]) rfl ?_
 refine W.re (v:=[([]:List UInt8),Hp,FN]) rfl ?_
 refine W.re (v:=[([]:List UInt8),Ki,If]) rfl ?_
 refine W.re (v:=[([]:List UInt8),E2,Dt]) rfl ?_
 have z:=F.z;have w:=F.w;have s:=F.s;have t:=F.t;have b:=F.b
 refine W.bd (oc (b:=600) (by simp;omega) (by kernel_rfl)) (fun e he=>?_)
 refine qT (k:=0) LB.nil he (fun l hl=>?_)
 clear he e
 unfold Kb
 refine W.bd (oc (b:=600) (by simp;omega) (by kernel_rfl)) (fun e he=>?_)
 refine qT hl he (fun l hl=>?_)
 clear he e
 unfold IP
 refine W.bd (oc (b:=600) (by simp;omega) (by kernel_rfl)) (fun e he=>?_)
 refine qT hl he (fun l hl=>?_)
 clear he e
 unfold IM
 refine lq (B:=Jv f) 6 hl (fun _=>rfl) (fun i m l hi hm hl=>?_) (fun l hl=>?_)
 ·unfold Jv
  rw [if_pos (by simp only [bz];omega)]
  refine W.bd (db _ _ (by omega)) (fun r _=>?_)
  refine W.if (fun _=>?_) (fun _=>ek (hl.le (by omega)))
  refine W.bd (ju ij hi) (fun x hx=>?_)
  exact lp hl (by omega) (fun l hl=>ek hl)
 unfold KP
 refine lq (B:=KO f) 6 hl (fun _=>rfl) (fun i m l hi hm hl=>?_) (fun l hl=>?_)
 ·unfold KO
  rw [if_pos (by simp only [bz];omega)]
  refine W.bd (db _ _ (by omega)) (fun r _=>?_)
  refine W.if (fun _=>?_) (fun _=>ek (hl.le (by omega)))
  refine W.bd (ju ij hi) (fun x hx=>?_)
  refine KX 100 (by have:C6.length=4:=rfl;omega) (fun x hx=>?_)
  exact lp hl (by have:C6.length=4:=rfl;omega) (fun l hl=>ek hl)
 unfold KN
 refine lq (B:=KM f) 5 hl (fun _=>rfl) (fun i m l hi hm hl=>?_) (fun l hl=>?_)
 ·unfold KM
  rw [if_pos (by simp only [bz];omega)]
  refine W.bd (db _ _ (by omega)) (fun r _=>?_)
  refine W.if (fun _=>?_) (fun _=>ek (hl.le (by omega)))
  refine W.bd (ju mf hi) (fun x hx=>?_)
  exact lp hl (by omega) (fun l hl=>ek hl)
 unfold KK
 refine lq (B:=KJ f) 5 hl (fun _=>rfl) (fun i m l hi hm hl=>?_) (fun l hl=>?_)
 ·unfold KJ
  rw [if_pos (by simp only [bz];omega)]
  refine W.bd (db _ _ (by omega)) (fun r _=>?_)
  refine W.if (fun _=>?_) (fun _=>ek (hl.le (by omega)))
  refine W.bd (ju mf hi) (fun x hx=>?_)
  refine KX 100 (by have:C6.length=4:=rfl;omega) (fun x hx=>?_)
  exact lp hl (by have:C6.length=4:=rfl;omega) (fun l hl=>ek hl)
 unfold KH
 have J: ∀ l,LB 26 l→W (G3 f [([]:List UInt8),E2,Dt] l) (fun r=>r.length≤37000):=fun l hl=>by
  unfold G3
  refine lq (B:=KG f) 17 hl (fun _=>rfl) (fun i m l hi hm hl=>?_) (fun l hl=>?_)
  ·unfold KG
   rw [if_pos (by simp only [bz];omega)]
   refine W.bd (db _ _ (by omega)) (fun r _=>?_)
   refine W.if (fun _=>?_) (fun _=>ek (hl.le (by omega)))
   refine W.bd (ju mg hi) (fun x hx=>?_)
   refine KX 100 (by have:Cx.length=5:=rfl;omega) (fun x hx=>?_)
   exact lp hl (by have:Cx.length=5:=rfl;omega) (fun l hl=>ek hl)
  unfold KE
  refine W.bd (oc (b:=600) (by simp;omega) (by kernel_rfl)) (fun e he=>?_)
  refine qT hl he (fun l hl=>?_)
  unfold IL
  refine W.bd (W6 (by decide) F.p) (fun e he=>?_)
  refine qT hl he (fun l hl=>?_)
  unfold IK
  refine W.bd (W6 (by decide) F.q) (fun e he=>?_)
  refine qT hl he (fun l hl=>?_)
  unfold IJ
  refine W.bd (W6 (by decide) F.v) (fun e he=>?_)
  refine qT hl he (fun l hl=>?_)
  unfold II
  refine W.if (fun _=>⟨_,rfl,by decide⟩) (fun _=>?_)
  exact W.bd (jP (hl.le (by omega)) (by decide)) (fun r hr=>⟨r,rfl,hr⟩)
 refine W.if (fun _=>?_) (fun _=>J _ (hl.le (by omega)))
 have:Lm.length=4:=rfl
 refine KX 100 (by omega) (fun x hx=>?_)
 exact lp hl (by omega) (fun l hl=>J l (hl.le (by omega)))
end Go.PL
