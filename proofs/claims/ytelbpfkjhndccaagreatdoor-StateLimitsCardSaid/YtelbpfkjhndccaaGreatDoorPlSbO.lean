/- Plain laws of states: the reference's texts answer. -/
import Derived.Test.YtelbpfkjhndccaaGreatDoorPlSbN
import Derived.Test.YtelbpfkjhndccaaGreatDoorPlPktoPlPx
namespace Go.PL
open Go
set_option maxRecDepth 100000
set_option linter.all false
set_option maxHeartbeats 1000000
theorem Zo (a b:Int) (hb:b≤1000):W (MD a b) (fun _=>True):=by
 unfold MD
 exact pC (B:=fun m k=>Up b m k) (g:=fun m=>Ab (Int.tdiv m 2)) b hb (fun m k=>rfl) (fun m=>⟨_,rfl,trivial⟩)
theorem ch:((List.range 6).all fun i=>dV 40 (MH (i:Int)))=true:=by kernel_rfl
theorem fw:((List.range 5).all fun i=>dV 40 (P5 (i:Int)))=true:=by kernel_rfl
theorem fx:((List.range 17).all fun i=>dV 40 (Uu (i:Int)))=true:=by kernel_rfl
theorem kW:((List.range 64).all fun i=>dV 60 (GB (i:Int)))=true:=by kernel_rfl
theorem kX:((List.range 32).all fun i=>dV 60 (NJ (i:Int)))=true:=by kernel_rfl
theorem fy (a:Int):W (GB a) (fun r=>r.length≤60):=by
 by_cases h:0≤a∧a≤63
 ·exact ak kW h.1 (by omega)
 ·have:(if decide (a<1)=true then true else decide (63<a))=true:=by simp only [bz];omega
  unfold GB
  simp only [Option.bind_some]
  rw [if_pos this]
  exact⟨_,rfl,by simp⟩
theorem fA (a:Int):W (NJ a) (fun r=>r.length≤60):=by
 by_cases h:0≤a∧a≤31
 ·exact ak kX h.1 (by omega)
 ·have:aK a=some false:=by
   unfold aK
   simp
   omega
  unfold NJ
  rw [this]
  exact⟨_,rfl,by simp⟩
theorem aR {a:Int} (h0: -9223372036854775808≤a) (h1:a≤9223372036854775807):W (F9 a) (fun r=>r.length≤21):=
 ⟨_,(show F9 a=bI a from rfl).trans (YG h0 h1),PF h0 h1⟩
theorem dx {l:List (List UInt8)} {sep:List UInt8} (h:LB 60 l) (hs:sep.length≤10):W (Ur l sep) (fun r=>r.length≤37000):=by
 unfold Ur
 have hl:=h.1
 refine W.it (fun v=>0≤v.2∧v.2≤l.length∧(v.1.length:Int)≤610*v.2) (fun v=>((l.length:Int) - v.2).toNat) ⟨by simp,by simp,by simp⟩ (by dsimp only;omega) (fun v hv=>?_)
 obtain⟨s,i⟩:=v
 dsimp only at hv ⊢
 unfold RT
 have J: ∀ s:List UInt8,(s.length:Int)≤610*i+10→i<l.length→W (Kd l i s) (LQ (fun v=>0≤v.2∧v.2≤l.length∧(v.1.length:Int)≤610*v.2) (fun v=>((l.length:Int) - v.2).toNat) (s,i) (fun r=>W (RS r) (fun r=>r.length≤37000))):=fun s hs hi=>by
  unfold Kd
  refine W.bd (W.idx (by omega)) (fun e he=>?_)
  have:=h.2 e he.1
  refine I6 100000 (by omega) (fun s' hs'=>?_)
  have:=BC (x:=i+1) (by omega) (by omega)
  exact W.nx (by dsimp only;omega) (by dsimp only;omega)
 refine W.if (fun hi=>?_) (fun _=>W.ex ⟨_,rfl,by omega⟩)
 have hi:=of_decide_eq_true hi
 refine W.if (fun _=>?_) (fun _=>?_)
 ·refine I6 100000 (by omega) (fun s' hs'=>?_)
  have:=J s' (by omega) hi
  exact this
 ·exact J s (by omega) hi
theorem ib {l:List (List UInt8)} {b:Nat} {i:Int} (h:0≤i∧i<l.length) (hb:(l.all fun w=>Nat.ble w.length b)=true):W (idx l i) (fun e=>e.length≤b):=
 (W.idx h).imp fun e he=>Nat.le_of_ble_eq_true (List.all_eq_true.1 hb e he.1)
def dy (b:Ae):Prop:=0≤b.Kind∧b.Kind≤3∧0≤b.N∧b.N≤1000000
theorem UL {a:List UInt8} {b:Ae} (ha:a.length≤10) (hb:dy b):W (H5 a b) (fun r=>r.length≤600):=by
 obtain⟨h1,h2,h3,h4⟩:=hb
 unfold H5
 refine W.if (fun _=>⟨_,rfl,by simp⟩) (fun hk=>?_)
 refine W.re (v:=[([]:List UInt8),Kt,Ku,N7]) rfl ?_
 refine W.bd (ib (b:=10) (by simp;omega) (by kernel_rfl)) (fun e he=>?_)
 refine I6 100 (by omega) (fun s hs=>?_)
 refine W.bd (aR (by omega) (by omega)) (fun r hr=>?_)
 exact I6 100 (by omega) (fun s hs=>⟨_,rfl,by omega⟩)
theorem WD {s:List UInt8} (h:K4 s=true):s.length≤32:=by
 unfold K4 at h
 rw [Bool.and_eq_true,decide_eq_true_eq]at h
 exact h.1.2.1
theorem UM {b:Ae} (h:MX b=true):dy b:=by
 unfold MX at h
 simp only [Bool.and_eq_true,decide_eq_true_eq]at h
 exact⟨h.1.1,h.1.2,h.2.1.1,h.2.1.2⟩
structure pD (f:Af):Prop where
 z:0≤f.Zone∧f.Zone≤5
 w:0≤f.Who∧f.Who≤2
 s:0≤f.Self∧f.Self≤2
 t:0≤f.Tap∧f.Tap≤2
 k:0≤f.Keys∧f.Keys≤131071
 y:0≤f.Types∧f.Types≤63∧0≤f.NotTypes∧f.NotTypes≤63
 c:0≤f.Colors∧f.Colors≤31∧0≤f.NotColors∧f.NotColors≤31
 b:f.Sub.length≤32
 p:dy f.Power
 q:dy f.Tough
 v:dy f.Value
theorem ci {f:Af} (h:Lu f=true):pD f:=by
 have e:=D1 f
 rw [h]at e
 unfold CR at e
 have e1: ∀ x:Int,(x != 0)= !(x==0):=fun x=>rfl
 simp only [Option.bind_some,UK,Ro,Oj,Vh,O0,QA,bM,dT,bT,bF,mZ,aas',oq,pq,oP,Bool.not_or,Bool.not_and,Bool.and_assoc,e1,Option.some.injEq,Bool.and_eq_true,decide_eq_true_eq]at e
 obtain⟨k1,k2,k3,k4,k5,k6,k7,k8,k9,k10,k11,k12,k13,k14, -,k15,k16,k17,k18, -,k19,k20,k21,k22⟩:=e
 refine⟨⟨k1,k2⟩,⟨k3,k4⟩,⟨k5,k6⟩,⟨k7,k8⟩,⟨k9,k10⟩,⟨k11,k12,k13,k14⟩,⟨k15,k16,k17,k18⟩,?_,UM k20,UM k21,UM k22⟩
 by_cases hs:f.Sub=[]
 ·rw [hs];decide
 ·have:Zl f.Sub=true:=by simpa [hs] using k19
  unfold Zl at this
  rw [Bool.and_eq_true]at this
  exact WD this.1
theorem kY (f:Af):W (UB f) (fun r=>r.length≤37000):=by
 unfold UB
 rw [NV]
 refine W.lt (fun b hb=>?_)
 refine W.if (fun _=>⟨_,rfl,by simp⟩) (fun h=>?_)
 have F:=ci (f:=f) (by subst hb;simpa using h)
 clear h hb b
 refine W.re (v:=[([]:List UInt8),Lj,IP,Hi,J9,Ka]) rfl ?_
 refine W.re (v:=[([]:List UInt8),ID,G1]) rfl ?_
 refine W.re (v:=[([]:List UInt8),KR,Jd]) rfl ?_
 refine W.re (v:=[([]:List UInt8),FY,Ej]) rfl ?_
 have z:=F.z;have w:=F.w;have s:=F.s;have t:=F.t;have b:=F.b
 refine W.bd (ib (b:=600) (by simp;omega) (by kernel_rfl)) (fun e he=>?_)
 refine kD (k:=0) LB.nil he (fun l hl=>?_)
 clear he e
 unfold NQ
 refine W.bd (ib (b:=600) (by simp;omega) (by kernel_rfl)) (fun e he=>?_)
 refine kD hl he (fun l hl=>?_)
 clear he e
 unfold MR
 refine W.bd (ib (b:=600) (by simp;omega) (by kernel_rfl)) (fun e he=>?_)
 refine kD hl he (fun l hl=>?_)
 clear he e
 unfold MQ
 refine eZ (B:=LN f) 6 hl (fun _=>rfl) (fun i m l hi hm hl=>?_) (fun l hl=>?_)
 ·unfold LN
  rw [if_pos (by simp only [bz];omega)]
  refine W.bd (Zo _ _ (by omega)) (fun r _=>?_)
  refine W.if (fun _=>?_) (fun _=>ZJ (hl.le (by omega)))
  refine W.bd (dk ch hi) (fun x hx=>?_)
  exact eY hl (by omega) (fun l hl=>ZJ hl)
 unfold Qn
 refine eZ (B:=MP f) 6 hl (fun _=>rfl) (fun i m l hi hm hl=>?_) (fun l hl=>?_)
 ·unfold MP
  rw [if_pos (by simp only [bz];omega)]
  refine W.bd (Zo _ _ (by omega)) (fun r _=>?_)
  refine W.if (fun _=>?_) (fun _=>ZJ (hl.le (by omega)))
  refine W.bd (dk ch hi) (fun x hx=>?_)
  refine I6 100 (by have:CU.length=4:=rfl;omega) (fun x hx=>?_)
  exact eY hl (by have:CU.length=4:=rfl;omega) (fun l hl=>ZJ hl)
 unfold Qm
 refine eZ (B:=MO f) 5 hl (fun _=>rfl) (fun i m l hi hm hl=>?_) (fun l hl=>?_)
 ·unfold MO
  rw [if_pos (by simp only [bz];omega)]
  refine W.bd (Zo _ _ (by omega)) (fun r _=>?_)
  refine W.if (fun _=>?_) (fun _=>ZJ (hl.le (by omega)))
  refine W.bd (dk fw hi) (fun x hx=>?_)
  exact eY hl (by omega) (fun l hl=>ZJ hl)
 unfold Qk
 refine eZ (B:=MN f) 5 hl (fun _=>rfl) (fun i m l hi hm hl=>?_) (fun l hl=>?_)
 ·unfold MN
  rw [if_pos (by simp only [bz];omega)]
  refine W.bd (Zo _ _ (by omega)) (fun r _=>?_)
  refine W.if (fun _=>?_) (fun _=>ZJ (hl.le (by omega)))
  refine W.bd (dk fw hi) (fun x hx=>?_)
  refine I6 100 (by have:CU.length=4:=rfl;omega) (fun x hx=>?_)
  exact eY hl (by have:CU.length=4:=rfl;omega) (fun l hl=>ZJ hl)
 unfold Qi
 have J: ∀ l,LB 26 l→W (Ko f [([]:List UInt8),FY,Ej] l) (fun r=>r.length≤37000):=fun l hl=>by
  unfold Ko
  refine eZ (B:=MM f) 17 hl (fun _=>rfl) (fun i m l hi hm hl=>?_) (fun l hl=>?_)
  ·unfold MM
   rw [if_pos (by simp only [bz];omega)]
   refine W.bd (Zo _ _ (by omega)) (fun r _=>?_)
   refine W.if (fun _=>?_) (fun _=>ZJ (hl.le (by omega)))
   refine W.bd (dk fx hi) (fun x hx=>?_)
   refine I6 100 (by have:Cq.length=5:=rfl;omega) (fun x hx=>?_)
   exact eY hl (by have:Cq.length=5:=rfl;omega) (fun l hl=>ZJ hl)
  unfold Qg
  refine W.bd (ib (b:=600) (by simp;omega) (by kernel_rfl)) (fun e he=>?_)
  refine kD hl he (fun l hl=>?_)
  unfold ML
  refine W.bd (UL (by decide) F.p) (fun e he=>?_)
  refine kD hl he (fun l hl=>?_)
  unfold MK
  refine W.bd (UL (by decide) F.q) (fun e he=>?_)
  refine kD hl he (fun l hl=>?_)
  unfold MJ
  refine W.bd (UL (by decide) F.v) (fun e he=>?_)
  refine kD hl he (fun l hl=>?_)
  unfold MI
  refine W.if (fun _=>⟨_,rfl,by decide⟩) (fun _=>?_)
  exact W.bd (dx (hl.le (by omega)) (by decide)) (fun r hr=>⟨r,rfl,hr⟩)
 refine W.if (fun _=>?_) (fun _=>J _ (hl.le (by omega)))
 have:Jr.length=4:=rfl
 refine I6 100 (by omega) (fun x hx=>?_)
 exact eY hl (by omega) (fun l hl=>J l (hl.le (by omega)))
end Go.PL
