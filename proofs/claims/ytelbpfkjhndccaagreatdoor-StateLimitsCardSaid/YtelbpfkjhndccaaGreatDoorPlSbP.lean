/- Plain laws of states: the program's texts answer. -/
import Derived.Test.YtelbpfkjhndccaaGreatDoorPlSbO
namespace Go.PL
open Go
set_option maxRecDepth 100000
set_option linter.all false
set_option maxHeartbeats 1000000
def Bt (r:List Int):Prop:=r.length≤31∧ ∀ y∈r,0≤y∧y≤30
theorem Rr (a:Int):W (G3 a) Bt:=by
 unfold G3
 refine W.if (fun _=>⟨_,rfl,by simp,by simp⟩) (fun _=>?_)
 refine W.it (fun(v:Int×List Int)=>0≤v.1∧v.1≤31∧(v.2.length:Int)≤v.1∧ ∀ y∈v.2,0≤y∧y≤30) (fun v=>((31:Int) - v.1).toNat) ⟨by simp,by simp,by simp,by simp⟩ (by dsimp only;omega) (fun v hv=>?_)
 obtain⟨i,l⟩:=v
 obtain⟨h1,h2,h3,h4⟩:=hv
 dsimp only at h1 h2 h3 h4 ⊢
 unfold Lp
 have w:=BC (x:=i+1) (by omega) (by omega)
 refine W.if (fun hi=>?_) (fun _=>W.ex ⟨_,rfl,by omega,h4⟩)
 have hi:=of_decide_eq_true hi
 refine W.bd (W.need h1) (fun _ _=>?_)
 refine W.if (fun _=>?_) (fun _=>W.nx ⟨by dsimp only;omega,by dsimp only;omega,by dsimp only;omega,h4⟩ (by dsimp only;omega))
 refine W.bd (W.app (by simp;omega) (by unfold maxLen;simp;omega)) (fun e he=>?_)
 subst he
 refine W.nx ⟨by dsimp only;omega,by dsimp only;omega,by simp;omega,fun y hy=>?_⟩ (by dsimp only;omega)
 rw [List.mem_append,List.mem_singleton]at hy
 rcases hy with hy | rfl
 ·exact h4 y hy
 ·omega
theorem kZ {l:List (List UInt8)} {sep:List UInt8} (h:LB 1000 l) (hs:sep.length≤10):W (PK l sep) (fun r=>r.length≤l.length*(600+sep.length)):=by
 have:=T5 sep 600 h.2
 have h1:=h.1
 have h2:l.length*(600+sep.length)≤1000*610:=Nat.mul_le_mul h1 (by omega)
 unfold PK
 rw [if_pos ⟨by omega,by omega⟩]
 exact⟨_,rfl,this⟩
theorem ic {a:Int} (h0: -9223372036854775808≤a) (h1:a≤9223372036854775807):W (EE a) (fun r=>r.length≤21):=by
 unfold EE YN
 rw [if_pos ⟨h0,h1⟩]
 exact⟨_,rfl,PF h0 h1⟩
theorem oQ:((List.range 64).all fun i=>dV 60 (Dp (i:Int)))=true:=by kernel_rfl
theorem ig (a:Int):W (Dp a) (fun r=>r.length≤60):=by
 by_cases h:0≤a∧a≤63
 ·exact ak oQ h.1 (by omega)
 ·have:(if decide (a<1)=true then true else decide (63<a))=true:=by simp only [bz];omega
  unfold Dp
  simp only [Option.bind_some]
  rw [if_pos this]
  exact⟨_,rfl,by simp⟩
theorem oR:((List.range 32).all fun i=>dV 60 (Iv (i:Int)))=true:=by kernel_rfl
theorem na (a:Int):W (Iv a) (fun r=>r.length≤60):=by
 by_cases h:0≤a∧a≤31
 ·exact ak oR h.1 (by omega)
 ·have:ND a=some false:=by
   unfold ND
   simp
   omega
  unfold Iv
  rw [this]
  exact⟨_,rfl,by simp⟩
theorem oS:((List.range 31).all fun i=>dV 30 (Kf (i:Int)))=true:=by kernel_rfl
theorem ne (a:Int):W (Hw a) (fun r=>r.length≤40000):=by
 unfold Hw
 have: ∃ b,KX a=some b:=⟨_,by unfold KX;rfl⟩
 obtain⟨b,hb⟩:=this
 rw [hb]
 refine W.lt (fun b hb=>?_)
 refine W.if (fun _=>⟨_,rfl,by simp⟩) (fun h=>?_)
 refine W.bd (Rr a) (fun r hr=>?_)
 refine eZ (B:=Es r) r.length (k:=0) LB.nil (fun l=>?_) (fun i m l hi hm hl=>?_) (fun l hl=>?_) (by have:=hr.1;omega)
 ·unfold Es
  rw [if_neg (by simp)]
 ·unfold Es
  rw [if_pos (by simp only [bz];omega)]
  have:=hr.1
  refine W.bd (W.idx (by omega)) (fun e he=>?_)
  have:=hr.2 e he.1
  refine W.bd (ak oS this.1 (by omega)) (fun x hx=>?_)
  exact eY hl (by omega) (fun l hl=>ZJ hl)
 ·unfold Ga
  refine W.if (fun _=>⟨_,rfl,by decide⟩) (fun _=>?_)
  have h1:=hr.1
  have h2:=hl.1
  unfold Hn
  refine W.bd (W.bd (kZ (hl.le (by omega)) (by decide)) (fun r hr=>⟨r,rfl,hr⟩)) (fun x hx=>⟨_,rfl,?_⟩)
  have:l.length*(600+Lg.length)≤31*601:=Nat.mul_le_mul (by omega) (by decide)
  omega
theorem la {a:List UInt8} {b:Ae} (ha:a.length≤10) (hb:dy b):W (DH a b) (fun r=>r.length≤600):=by
 obtain⟨h1,h2,h3,h4⟩:=hb
 unfold DH
 refine W.bd (ib (b:=10) (by simp [A4.l];omega) (by kernel_rfl)) (fun e he=>?_)
 refine W.if (fun _=>⟨_,rfl,by simp⟩) (fun hk=>?_)
 refine I6 100 (by omega) (fun s hs=>?_)
 refine W.bd (ic (by omega) (by omega)) (fun r hr=>?_)
 exact I6 100 (by omega) (fun s hs=>⟨_,rfl,by omega⟩)
theorem oT:((List.range 6).all fun i=>dV 60 (Ic (i:Int)))=true:=by kernel_rfl
theorem Zp (i:Nat):(Ee.getD i []).length ≤60:=by
 have:i=0∨i=1∨i=2∨i=3∨i=4∨5≤i:=by omega
 rcases this with rfl | rfl | rfl | rfl | rfl | h
 all_goals first | decide | skip
 have:Ee.getD i []=[]:=by
  rw [List.getD_eq_getElem?_getD,List.getElem?_eq_none (by show 5≤i;exact h)];rfl
 rw [this];simp
theorem nf:Cw [NB,LZ]=some NB:=by kernel_rfl
theorem ii:Cw [[],LZ]=some LZ:=by kernel_rfl
theorem fB:Cw [IC,Jc]=some IC:=by kernel_rfl
theorem dz:Cw [[],Jc]=some Jc:=by kernel_rfl
theorem ng (f:Af):W (II f) (fun r=>r.length≤130000):=by
 unfold II
 rw [D1]
 refine W.lt (fun b hb=>?_)
 refine W.if (fun _=>⟨_,rfl,by simp⟩) (fun h=>?_)
 have F:=ci (f:=f) (by subst hb;simpa using h)
 clear h hb b
 have z:=F.z;have w:=F.w;have s:=F.s;have t:=F.t;have b:=F.b
 refine W.bd (ak oT z.1 (by omega)) (fun e he=>?_)
 refine al (k:=0) LB.nil (by omega) (fun l hl=>?_)
 clear he e
 unfold FC
 refine W.bd (ib (b:=600) (by simp [A3.l];omega) (by kernel_rfl)) (fun e he=>?_)
 refine al hl he (fun l hl=>?_)
 clear he e
 unfold FB
 refine W.bd (ib (b:=600) (by simp [A3.l];omega) (by kernel_rfl)) (fun e he=>?_)
 refine al hl he (fun l hl=>?_)
 clear he e
 unfold EV
 refine W.bd (Rr _) (fun r hr=>?_)
 obtain⟨hr1,hr2⟩:=hr
 refine eZ (B:=Ex r) r.length hl (fun l=>by unfold Ex;rw [if_neg (by simp)]) (fun i m l hi hm hl=>?_) (fun l hl=>?_)
 ·unfold Ex
  rw [if_pos (by simp only [bz];omega)]
  refine W.bd (W.idx (by omega)) (fun e he=>?_)
  have q:=hr2 e he.1
  refine W.bd (W.need q.1) (fun _ _=>?_)
  refine W.bd (ig _) (fun x hx=>?_)
  refine I6 100 (by simp;omega) (fun x hx=>?_)
  exact al hl (by simp at hx;omega) (fun l hl=>ZJ hl)
 replace hl:=hl.le (m:=34) (by omega)
 clear hr1 hr2 r
 unfold Gr
 refine W.bd (Rr _) (fun r hr=>?_)
 obtain⟨hr1,hr2⟩:=hr
 have h4:CU.length=4:=rfl
 refine eZ (B:=Ew r) r.length hl (fun l=>by unfold Ew;rw [if_neg (by simp)]) (fun i m l hi hm hl=>?_) (fun l hl=>?_)
 ·unfold Ew
  rw [if_pos (by simp only [bz];omega)]
  refine W.bd (W.idx (by omega)) (fun e he=>?_)
  have q:=hr2 e he.1
  refine W.bd (W.need q.1) (fun _ _=>?_)
  refine W.bd (ig _) (fun x hx=>?_)
  refine I6 100 (by omega) (fun x hx=>?_)
  exact al hl (by omega) (fun l hl=>ZJ hl)
 replace hl:=hl.le (m:=65) (by omega)
 clear hr1 hr2 r
 unfold Gn
 refine W.bd (Rr _) (fun r hr=>?_)
 obtain⟨hr1,hr2⟩:=hr
 refine eZ (B:=Ev r) r.length hl (fun l=>by unfold Ev;rw [if_neg (by simp)]) (fun i m l hi hm hl=>?_) (fun l hl=>?_)
 ·unfold Ev
  rw [if_pos (by simp only [bz];omega)]
  refine W.bd (W.idx (by omega)) (fun e he=>?_)
  have q:=hr2 e he.1
  have J: ∀ w:List UInt8,w.length≤60→W (DL (i:Int) l w) (kE i m):=fun w hw=>by
   unfold DL
   refine I6 100 (by simp;omega) (fun x hx=>?_)
   exact al hl (by simp at hx;omega) (fun l hl=>ZJ hl)
  refine W.lt (fun b hb=>?_)
  refine W.if (fun _=>J _ (by simp)) (fun h=>?_)
  subst hb
  simp only [bz]at h
  exact W.bd (W.need (by omega)) (fun _ _=>J _ (Zp _))
 replace hl:=hl.le (m:=96) (by omega)
 clear hr1 hr2 r
 unfold Gm
 refine W.bd (Rr _) (fun r hr=>?_)
 obtain⟨hr1,hr2⟩:=hr
 refine eZ (B:=Eu r) r.length hl (fun l=>by unfold Eu;rw [if_neg (by simp)]) (fun i m l hi hm hl=>?_) (fun l hl=>?_)
 ·unfold Eu
  rw [if_pos (by simp only [bz];omega)]
  refine W.bd (W.idx (by omega)) (fun e he=>?_)
  have q:=hr2 e he.1
  have J: ∀ w:List UInt8,w.length≤60→W (DK (i:Int) l w) (kE i m):=fun w hw=>by
   unfold DK
   refine I6 100 (by omega) (fun x hx=>?_)
   exact al hl (by omega) (fun l hl=>ZJ hl)
  refine W.lt (fun b hb=>?_)
  refine W.if (fun _=>J _ (by simp)) (fun h=>?_)
  subst hb
  simp only [bz]at h
  exact W.bd (W.need (by omega)) (fun _ _=>J _ (Zp _))
 replace hl:=hl.le (m:=127) (by omega)
 clear hr1 hr2 r
 have K: ∀ l,LB 128 l→W (D8 f l) (fun r=>r.length≤130000):=fun l hl=>by
  unfold D8
  refine W.bd (Rr _) (fun r hr=>?_)
  obtain⟨hr1,hr2⟩:=hr
  refine eZ (B:=ET r) r.length hl (fun l=>by unfold ET;rw [if_neg (by simp)]) (fun i m l hi hm hl=>?_) (fun l hl=>?_)
  ·unfold ET
   rw [if_pos (by simp only [bz];omega)]
   refine W.bd (W.idx (by omega)) (fun e he=>?_)
   have q:=hr2 e he.1
   have J: ∀ w:List UInt8,w.length≤60→W (Be (i:Int) l w) (kE i m):=fun w hw=>by
    unfold Be
    have:Cq.length=5:=rfl
    refine I6 100 (by omega) (fun x hx=>?_)
    exact al hl (by omega) (fun l hl=>ZJ hl)
   have J1: ∀ w v:List UInt8,Cw [w,LZ]=some v→v.length≤20→W (D6 (i:Int) l w) (kE i m):=fun w v hv hw=>by
    unfold D6
    have:NC.length=7:=rfl
    exact W.re hv (I6 100 (by omega) (fun x hx=>J _ (by omega)))
   have J2: ∀ w v:List UInt8,Cw [w,Jc]=some v→v.length≤20→W (D7 (i:Int) l w) (kE i m):=fun w v hv hw=>by
    unfold D7
    have:NA.length=7:=rfl
    exact W.re hv (I6 100 (by omega) (fun x hx=>J _ (by omega)))
   refine W.lt (fun b hb=>?_)
   refine W.if (fun _=>J _ (by simp)) (fun h=>?_)
   refine W.bd (W.need (by omega)) (fun _ _=>?_)
   repeat' (first | exact J _ (by decide) | exact J1 _ _ nf (by decide) | exact J1 _ _ ii (by decide) | exact J2 _ _ fB (by decide) | exact J2 _ _ dz (by decide) | refine W.if (fun _=>?_) (fun _=>?_))
  replace hl:=hl.le (m:=159) (by omega)
  clear hr1 hr2 r
  unfold Gh
  refine W.bd (ib (b:=600) (by simp [A3.l];omega) (by kernel_rfl)) (fun e he=>?_)
  refine al hl he (fun l hl=>?_)
  unfold ES
  refine W.bd (la (by decide) F.p) (fun e he=>?_)
  refine al hl he (fun l hl=>?_)
  unfold ER
  refine W.bd (la (by decide) F.q) (fun e he=>?_)
  refine al hl he (fun l hl=>?_)
  unfold EQ
  refine W.bd (la (by decide) F.v) (fun e he=>?_)
  refine al hl he (fun l hl=>?_)
  unfold EP
  refine W.if (fun _=>⟨_,rfl,by decide⟩) (fun _=>?_)
  have h1:=hl.1
  refine W.bd (kZ (hl.le (by omega)) (by decide)) (fun r hr=>⟨r,rfl,?_⟩)
  have:l.length*(600+Xk.length)≤163*601:=Nat.mul_le_mul (by omega) (by decide)
  omega
 unfold Gl
 refine W.if (fun _=>?_) (fun _=>K _ (hl.le (by omega)))
 have:Jr.length=4:=rfl
 refine I6 100 (by omega) (fun x hx=>?_)
 unfold EU
 exact al hl (by omega) (fun l hl=>K l hl)
end Go.PL
