/- Plain laws of states: the program's texts answer. -/
import Derived.Test.YtelbpfkjhndccaaGreatDoorPlSbO
namespace Go.PL
open Go
set_option maxRecDepth 100000
set_option linter.all false
set_option maxHeartbeats 1000000
def Bt (r:List Int):Prop:=r.length≤31∧ ∀ y∈r,0≤y∧y≤30
theorem T7 (a:Int):W (HR a) Bt:=by
 unfold HR
 refine W.if (fun _=>⟨_,rfl,by simp,by simp⟩) (fun _=>?_)
 refine W.it (fun(v:Int×List Int)=>0≤v.1∧v.1≤31∧(v.2.length:Int)≤v.1∧ ∀ y∈v.2,0≤y∧y≤30) (fun v=>((31:Int) - v.1).toNat) ⟨by simp,by simp,by simp,by simp⟩ (by dsimp only;omega) (fun v hv=>?_)
 obtain⟨i,l⟩:=v
 obtain⟨h1,h2,h3,h4⟩:=hv
 dsimp only at h1 h2 h3 h4 ⊢
 unfold NU
 have w:=BD (x:=i+1) (by omega) (by omega)
 refine W.if (fun hi=>?_) (fun _=>W.ex ⟨_,rfl,by omega,h4⟩)
 have hi:=of_decide_eq_true hi
 refine W.bd (W.need h1) (fun _ _=>?_)
 refine W.if (fun _=>?_) (fun _=>W.nx ⟨by dsimp only;omega,by dsimp only;omega,by dsimp only;omega,h4⟩ (by dsimp only;omega))
 refine W.bd (W.app (by simp;omega) (by unfold maxLen;simp;omega)) (fun e he=>?_)
 subst he
 refine W.nx ⟨by dsimp only;omega,by dsimp only;omega,by simp;omega,fun y hy=>?_⟩ (by dsimp only;omega)
 rw [List.mem_append,List.mem_singleton]at hy
 rcases hy with hy | rfl
 ·exact h4 y hy
 ·omega
theorem rr {l:List (List UInt8)} {sep:List UInt8} (h:LB 1000 l) (hs:sep.length≤10):W (SE l sep) (fun r=>r.length≤l.length*(600+sep.length)):=by
 have:=Wi sep 600 h.2
 have h1:=h.1
 have h2:l.length*(600+sep.length)≤1000*610:=Nat.mul_le_mul h1 (by omega)
 unfold SE
 rw [if_pos ⟨by omega,by omega⟩]
 exact⟨_,rfl,this⟩
theorem od {a:Int} (h0: -9223372036854775808≤a) (h1:a≤9223372036854775807):W (E3 a) (fun r=>r.length≤21):=by
 unfold E3 bH
 rw [if_pos ⟨h0,h1⟩]
 exact⟨_,rfl,Sx h0 h1⟩
theorem uA:((List.range 64).all fun i=>ky 60 (DA (i:Int)))=true:=by kernel_rfl
theorem oe (a:Int):W (DA a) (fun r=>r.length≤60):=by
 by_cases h:0≤a∧a≤63
 ·exact fc uA h.1 (by omega)
 ·have:(if decide (a<1)=true then true else decide (63<a))=true:=by simp only [bz];omega
  unfold DA
  simp only [Option.bind_some]
  rw [if_pos this]
  exact⟨_,rfl,by simp⟩
theorem uB:((List.range 32).all fun i=>ky 60 (JJ (i:Int)))=true:=by kernel_rfl
theorem tb (a:Int):W (JJ a) (fun r=>r.length≤60):=by
 by_cases h:0≤a∧a≤31
 ·exact fc uB h.1 (by omega)
 ·have:Qr a=some false:=by
   unfold Qr
   simp
   omega
  unfold JJ
  rw [this]
  exact⟨_,rfl,by simp⟩
theorem uC:((List.range 31).all fun i=>ky 30 (Mz (i:Int)))=true:=by kernel_rfl
theorem tc (a:Int):W (Ix a) (fun r=>r.length≤40000):=by
 unfold Ix
 have: ∃ b,Np a=some b:=⟨_,by unfold Np;rfl⟩
 obtain⟨b,hb⟩:=this
 rw [hb]
 refine W.lt (fun b hb=>?_)
 refine W.if (fun _=>⟨_,rfl,by simp⟩) (fun h=>?_)
 refine W.bd (T7 a) (fun r hr=>?_)
 refine lq (B:=ER r) r.length (k:=0) LB.nil (fun l=>?_) (fun i m l hi hm hl=>?_) (fun l hl=>?_) (by have:=hr.1;omega)
 ·unfold ER
  rw [if_neg (by simp)]
 ·unfold ER
  rw [if_pos (by simp only [bz];omega)]
  have:=hr.1
  refine W.bd (W.idx (by omega)) (fun e he=>?_)
  have:=hr.2 e he.1
  refine W.bd (fc uC this.1 (by omega)) (fun x hx=>?_)
  exact lp hl (by omega) (fun l hl=>ek hl)
 ·unfold Hd
  refine W.if (fun _=>⟨_,rfl,by decide⟩) (fun _=>?_)
  have h1:=hr.1
  have h2:=hl.1
  unfold Ik
  refine W.bd (W.bd (rr (hl.le (by omega)) (by decide)) (fun r hr=>⟨r,rfl,hr⟩)) (fun x hx=>⟨_,rfl,?_⟩)
  have:l.length*(600+NO.length)≤31*601:=Nat.mul_le_mul (by omega) (by decide)
  omega
theorem rt {a:List UInt8} {b:Ac} (ha:a.length≤10) (hb:jQ b):W (DQ a b) (fun r=>r.length≤600):=by
 obtain⟨h1,h2,h3,h4⟩:=hb
 unfold DQ
 refine W.bd (oc (b:=10) (by simp [A4.l];omega) (by kernel_rfl)) (fun e he=>?_)
 refine W.if (fun _=>⟨_,rfl,by simp⟩) (fun hk=>?_)
 refine KX 100 (by omega) (fun s hs=>?_)
 refine W.bd (od (by omega) (by omega)) (fun r hr=>?_)
 exact KX 100 (by omega) (fun s hs=>⟨_,rfl,by omega⟩)
theorem uD:((List.range 6).all fun i=>ky 60 (Jy (i:Int)))=true:=by kernel_rfl
theorem dc (i:Nat):(Et.getD i []).length ≤60:=by
 have:i=0∨i=1∨i=2∨i=3∨i=4∨5≤i:=by omega
 rcases this with rfl | rfl | rfl | rfl | rfl | h
 all_goals first | decide | skip
 have:Et.getD i []=[]:=by
  rw [List.getD_eq_getElem?_getD,List.getElem?_eq_none (by show 5≤i;exact h)];rfl
 rw [this];simp
theorem td:CF [Qe,OF]=some Qe:=by kernel_rfl
theorem og:CF [[],OF]=some OF:=by kernel_rfl
theorem mj:CF [JW,KZ]=some JW:=by kernel_rfl
theorem jR:CF [[],KZ]=some KZ:=by kernel_rfl
theorem te (f:Ag):W (J9 f) (fun r=>r.length≤130000):=by
 unfold J9
 rw [Ed]
 refine W.lt (fun b hb=>?_)
 refine W.if (fun _=>⟨_,rfl,by simp⟩) (fun h=>?_)
 have F:=ik (f:=f) (by subst hb;simpa using h)
 clear h hb b
 have z:=F.z;have w:=F.w;have s:=F.s;have t:=F.t;have b:=F.b
 refine W.bd (fc uD z.1 (by omega)) (fun e he=>?_)
 refine fd (k:=0) LB.nil (by omega) (fun l hl=>?_)
 clear he e
 unfold Gn
 refine W.bd (oc (b:=600) (by simp [A3.l];omega) (by kernel_rfl)) (fun e he=>?_)
 refine fd hl he (fun l hl=>?_)
 clear he e
 unfold Gm
 refine W.bd (oc (b:=600) (by simp [A3.l];omega) (by kernel_rfl)) (fun e he=>?_)
 refine fd hl he (fun l hl=>?_)
 clear he e
 unfold Fk
 refine W.bd (T7 _) (fun r hr=>?_)
 obtain⟨hr1,hr2⟩:=hr
 refine lq (B:=EW r) r.length hl (fun l=>by unfold EW;rw [if_neg (by simp)]) (fun i m l hi hm hl=>?_) (fun l hl=>?_)
 ·unfold EW
  rw [if_pos (by simp only [bz];omega)]
  refine W.bd (W.idx (by omega)) (fun e he=>?_)
  have q:=hr2 e he.1
  refine W.bd (W.need q.1) (fun _ _=>?_)
  refine W.bd (oe _) (fun x hx=>?_)
  refine KX 100 (by simp;omega) (fun x hx=>?_)
  exact fd hl (by simp at hx;omega) (fun l hl=>ek hl)
 replace hl:=hl.le (m:=34) (by omega)
 clear hr1 hr2 r
 unfold Hm
 refine W.bd (T7 _) (fun r hr=>?_)
 obtain⟨hr1,hr2⟩:=hr
 have h4:C6.length=4:=rfl
 refine lq (B:=EV r) r.length hl (fun l=>by unfold EV;rw [if_neg (by simp)]) (fun i m l hi hm hl=>?_) (fun l hl=>?_)
 ·unfold EV
  rw [if_pos (by simp only [bz];omega)]
  refine W.bd (W.idx (by omega)) (fun e he=>?_)
  have q:=hr2 e he.1
  refine W.bd (W.need q.1) (fun _ _=>?_)
  refine W.bd (oe _) (fun x hx=>?_)
  refine KX 100 (by omega) (fun x hx=>?_)
  exact fd hl (by omega) (fun l hl=>ek hl)
 replace hl:=hl.le (m:=65) (by omega)
 clear hr1 hr2 r
 unfold Hl
 refine W.bd (T7 _) (fun r hr=>?_)
 obtain⟨hr1,hr2⟩:=hr
 refine lq (B:=EU r) r.length hl (fun l=>by unfold EU;rw [if_neg (by simp)]) (fun i m l hi hm hl=>?_) (fun l hl=>?_)
 ·unfold EU
  rw [if_pos (by simp only [bz];omega)]
  refine W.bd (W.idx (by omega)) (fun e he=>?_)
  have q:=hr2 e he.1
  have J: ∀ w:List UInt8,w.length≤60→W (DU (i:Int) l w) (qU i m):=fun w hw=>by
   unfold DU
   refine KX 100 (by simp;omega) (fun x hx=>?_)
   exact fd hl (by simp at hx;omega) (fun l hl=>ek hl)
  refine W.lt (fun b hb=>?_)
  refine W.if (fun _=>J _ (by simp)) (fun h=>?_)
  subst hb
  simp only [bz]at h
  exact W.bd (W.need (by omega)) (fun _ _=>J _ (dc _))
 replace hl:=hl.le (m:=96) (by omega)
 clear hr1 hr2 r
 unfold Hk
 refine W.bd (T7 _) (fun r hr=>?_)
 obtain⟨hr1,hr2⟩:=hr
 refine lq (B:=ET r) r.length hl (fun l=>by unfold ET;rw [if_neg (by simp)]) (fun i m l hi hm hl=>?_) (fun l hl=>?_)
 ·unfold ET
  rw [if_pos (by simp only [bz];omega)]
  refine W.bd (W.idx (by omega)) (fun e he=>?_)
  have q:=hr2 e he.1
  have J: ∀ w:List UInt8,w.length≤60→W (DT (i:Int) l w) (qU i m):=fun w hw=>by
   unfold DT
   refine KX 100 (by omega) (fun x hx=>?_)
   exact fd hl (by omega) (fun l hl=>ek hl)
  refine W.lt (fun b hb=>?_)
  refine W.if (fun _=>J _ (by simp)) (fun h=>?_)
  subst hb
  simp only [bz]at h
  exact W.bd (W.need (by omega)) (fun _ _=>J _ (dc _))
 replace hl:=hl.le (m:=127) (by omega)
 clear hr1 hr2 r
 have K: ∀ l,LB 128 l→W (Em f l) (fun r=>r.length≤130000):=fun l hl=>by
  unfold Em
  refine W.bd (T7 _) (fun r hr=>?_)
  obtain⟨hr1,hr2⟩:=hr
  refine lq (B:=Fi r) r.length hl (fun l=>by unfold Fi;rw [if_neg (by simp)]) (fun i m l hi hm hl=>?_) (fun l hl=>?_)
  ·unfold Fi
   rw [if_pos (by simp only [bz];omega)]
   refine W.bd (W.idx (by omega)) (fun e he=>?_)
   have q:=hr2 e he.1
   have J: ∀ w:List UInt8,w.length≤60→W (Bh (i:Int) l w) (qU i m):=fun w hw=>by
    unfold Bh
    have:Cx.length=5:=rfl
    refine KX 100 (by omega) (fun x hx=>?_)
    exact fd hl (by omega) (fun l hl=>ek hl)
   have J1: ∀ w v:List UInt8,CF [w,OF]=some v→v.length≤20→W (Ek (i:Int) l w) (qU i m):=fun w v hv hw=>by
    unfold Ek
    have:Qf.length=7:=rfl
    exact W.re hv (KX 100 (by omega) (fun x hx=>J _ (by omega)))
   have J2: ∀ w v:List UInt8,CF [w,KZ]=some v→v.length≤20→W (El (i:Int) l w) (qU i m):=fun w v hv hw=>by
    unfold El
    have:Qd.length=7:=rfl
    exact W.re hv (KX 100 (by omega) (fun x hx=>J _ (by omega)))
   refine W.lt (fun b hb=>?_)
   refine W.if (fun _=>J _ (by simp)) (fun h=>?_)
   refine W.bd (W.need (by omega)) (fun _ _=>?_)
   repeat' (first | exact J _ (by decide) | exact J1 _ _ td (by decide) | exact J1 _ _ og (by decide) | exact J2 _ _ mj (by decide) | exact J2 _ _ jR (by decide) | refine W.if (fun _=>?_) (fun _=>?_))
  replace hl:=hl.le (m:=159) (by omega)
  clear hr1 hr2 r
  unfold Hh
  refine W.bd (oc (b:=600) (by simp [A3.l];omega) (by kernel_rfl)) (fun e he=>?_)
  refine fd hl he (fun l hl=>?_)
  unfold Fh
  refine W.bd (rt (by decide) F.p) (fun e he=>?_)
  refine fd hl he (fun l hl=>?_)
  unfold Fg
  refine W.bd (rt (by decide) F.q) (fun e he=>?_)
  refine fd hl he (fun l hl=>?_)
  unfold Ff
  refine W.bd (rt (by decide) F.v) (fun e he=>?_)
  refine fd hl he (fun l hl=>?_)
  unfold Fe
  refine W.if (fun _=>⟨_,rfl,by decide⟩) (fun _=>?_)
  have h1:=hl.1
  refine W.bd (rr (hl.le (by omega)) (by decide)) (fun r hr=>⟨r,rfl,?_⟩)
  have:l.length*(600+Zr.length)≤163*601:=Nat.mul_le_mul (by omega) (by decide)
  omega
 unfold Hj
 refine W.if (fun _=>?_) (fun _=>K _ (hl.le (by omega)))
 have:Lm.length=4:=rfl
 refine KX 100 (by omega) (fun x hx=>?_)
 unfold Fj
 exact fd hl (by omega) (fun l hl=>K l hl)
end Go.PL
