/- Plain laws of states: texts of modifications, of lists, of prices and targets. -/
import Derived.Test.YtelbpfkjhndccaaGreatDoorPlSbQ
namespace Go.PL
open Go
set_option maxRecDepth 100000
set_option linter.all false
set_option maxHeartbeats 1000000
def NW (m:Bx):Bool:=(IX m).getD false
theorem cp (m:Bx):IX m=some (NW m):=by
 obtain⟨b,h⟩:=(Zn m).1
 unfold NW;rw [h];rfl
theorem jD (m:Bx):Pc m=some (NW m):=by rw [(Zn m).2,cp]
theorem fJ {m:Bx} (h:NW m=true):(m.Kind=4∨m.Kind=5→m.Sub.length≤32)∧(m.Kind=12∨m.Kind=13→ -99≤m.N∧m.N≤99∧ -99≤m.M∧m.M≤99):=by
 have e:=cp m
 rw [h]at e
 obtain⟨k,n,p,s,f⟩:=m
 refine⟨?_,?_⟩
 ·dsimp only
  rintro(rfl | rfl)
  all_goals
   simp [IX,HB,F5,F4,KW,Dv,C7,E1,Ek,fv,UK,Vh,dX,X0,O0,QA,bM,dT]at e
   have e2:=e.2
   unfold Zl at e2
   rw [Bool.and_eq_true]at e2
   exact WD e2.1
 ·dsimp only
  rintro(rfl | rfl)
  all_goals
   simp [IX,HB,F5,F4,KW,Dv,C7,E1,Ek,fv,UK,Vh,dX,X0,O0,QA,bM,dT]at e
   omega
def Tx (b:Bool) (n:Nat) (r:List UInt8):Prop:=r.length≤n∧(r==[])= !b
theorem Tx.mk {n:Nat} {r:List UInt8} (h:r.length≤n) (h0:0<r.length):Tx true n r:=⟨h,by cases r<;>simp at *⟩
theorem oW (m:Bx):W (NO m) (Tx (NW m) 200000):=by
 unfold NO
 rw [cp]
 refine W.lt (fun b hb=>?_)
 refine W.if (fun h=>⟨_,rfl,by rw [←hb];simp at h;subst h;exact⟨by simp,rfl⟩⟩) (fun h=>?_)
 obtain⟨h1,h2⟩:=fJ (m:=m) (by subst hb;simpa using h)
 rw [←hb,show b=true by simpa using h]
 have l1:Mq.length=6:=rfl
 have l2:Lh.length=7:=rfl
 have l3:PN.length=4:=rfl
 have l4:N6.length=5:=rfl
 have l5:Li.length=7:=rfl
 have l6:J8.length=8:=rfl
 have l7:Mr.length=6:=rfl
 have l8:GK.length=6:=rfl
 have l9:Js.length=9:=rfl
 have l10:S4.length=1:=rfl
 have l11:S5.length=3:=rfl
 have l12:PO.length=4:=rfl
 have l13:Lk.length=1:=rfl
 refine W.if (fun _=>⟨_,rfl,Tx.mk (by decide) (by decide)⟩) (fun _=>?_)
 refine W.if (fun _=>W.bd (ig _) (fun r hr=>I6 1000 (by omega) (fun s hs=>⟨_,rfl,Tx.mk (by omega) (by omega)⟩))) (fun _=>?_)
 refine W.if (fun _=>W.bd (ig _) (fun r hr=>I6 1000 (by omega) (fun s hs=>⟨_,rfl,Tx.mk (by omega) (by omega)⟩))) (fun _=>?_)
 refine W.if (fun k=>I6 1000 (by have:=h1 (.inl (beq_iff_eq.1 k));omega) (fun s hs=>⟨_,rfl,Tx.mk (by have:=h1 (.inl (beq_iff_eq.1 k));omega) (by omega)⟩)) (fun _=>?_)
 refine W.if (fun k=>I6 1000 (by have:=h1 (.inr (beq_iff_eq.1 k));omega) (fun s hs=>⟨_,rfl,Tx.mk (by have:=h1 (.inr (beq_iff_eq.1 k));omega) (by omega)⟩)) (fun _=>?_)
 refine W.if (fun _=>W.bd (na _) (fun r hr=>I6 1000 (by omega) (fun s hs=>⟨_,rfl,Tx.mk (by omega) (by omega)⟩))) (fun _=>?_)
 refine W.if (fun _=>W.bd (na _) (fun r hr=>I6 1000 (by omega) (fun s hs=>⟨_,rfl,Tx.mk (by omega) (by omega)⟩))) (fun _=>?_)
 refine W.if (fun _=>W.bd (ne _) (fun r hr=>I6 100000 (by omega) (fun s hs=>⟨_,rfl,Tx.mk (by omega) (by omega)⟩))) (fun _=>?_)
 refine W.if (fun _=>W.bd (ne _) (fun r hr=>I6 100000 (by omega) (fun s hs=>⟨_,rfl,Tx.mk (by omega) (by omega)⟩))) (fun _=>?_)
 refine W.if (fun _=>⟨_,rfl,Tx.mk (by decide) (by decide)⟩) (fun _=>?_)
 refine W.if (fun _=>W.bd (ng _) (fun r hr=>I6 1000000 (by omega) (fun s hs=>I6 1000000 (by omega) (fun s hs=>⟨_,rfl,Tx.mk (by omega) (by omega)⟩)))) (fun _=>?_)
 have N: ∀ (p:List UInt8),p.length≤10→m.Kind=12∨m.Kind=13→W ((EE m.N).bind fun r32=>(cat p r32).bind fun s33=>(cat s33 Lk).bind fun s34=>(EE m.M).bind fun r35=>(cat s34 r35).bind fun s36=>some s36) (Tx true 200000):=fun p hp hk=>by
  have q:=h2 hk
  refine W.bd (ic (by omega) (by omega)) (fun r hr=>I6 1000 (by omega) (fun s hs=>I6 1000 (by omega) (fun s hs=>?_)))
  exact W.bd (ic (by omega) (by omega)) (fun r hr=>I6 1000 (by omega) (fun s hs=>⟨_,rfl,Tx.mk (by omega) (by omega)⟩))
 refine W.if (fun k=>N _ (by omega) (.inl (beq_iff_eq.1 k))) (fun _=>?_)
 refine W.if (fun k=>N _ (by omega) (.inr (beq_iff_eq.1 k))) (fun _=>⟨_,rfl,Tx.mk (by decide) (by decide)⟩)
theorem fK (a:Int):W (Qf a) (fun r=>r.length≤2000):=by
 unfold Qf
 have: ∃ b,aL a=some b:=⟨_,by unfold aL;rfl⟩
 obtain⟨b,hb⟩:=this
 rw [hb]
 refine W.lt (fun b hb=>?_)
 refine W.if (fun _=>⟨_,rfl,by simp⟩) (fun h=>?_)
 refine W.it (fun(v:Int×List UInt8×Int)=>0≤v.2.2∧v.2.2≤17∧(v.2.1.length:Int)≤41*v.2.2) (fun v=>((17:Int) - v.2.2).toNat) ⟨by simp,by simp,by simp⟩ (by dsimp only;omega) (fun v hv=>?_)
 obtain⟨k,s,i⟩:=v
 obtain⟨h1,h2,h3⟩:=hv
 dsimp only at h1 h2 h3 ⊢
 unfold Qe
 have w:=BC (x:=i+1) (by omega) (by omega)
 have J: ∀ s:List UInt8,(s.length:Int)≤41*i+1→i<17→W (Kk k i s) (LQ (fun(v:Int×List UInt8×Int)=>0≤v.2.2∧v.2.2≤17∧(v.2.1.length:Int)≤41*v.2.2) (fun v=>((17:Int) - v.2.2).toNat) (k,s,i) (fun r=>W (NL r) (fun r=>r.length≤2000))):=fun s hs hi=>by
  unfold Kk
  refine W.bd (ak fx h1 (by omega)) (fun e he=>?_)
  refine I6 100000 (by omega) (fun s' hs'=>?_)
  unfold Kj
  exact W.nx (by dsimp only;omega) (by dsimp only;omega)
 refine W.if (fun hi=>?_) (fun _=>W.ex ?_)
 ·have hi:=of_decide_eq_true hi
  refine W.if (fun _=>?_) (fun _=>by unfold Kj;exact W.nx (by dsimp only;omega) (by dsimp only;omega))
  refine W.if (fun _=>?_) (fun _=>J s (by omega) hi)
  have:Lg.length=1:=rfl
  exact I6 100000 (by omega) (fun s' hs'=>J s' (by omega) hi)
 ·unfold NL
  exact W.if (fun _=>⟨_,rfl,by decide⟩) (fun _=>⟨_,rfl,by omega⟩)
theorem nq (m:Bx):W (UD m) (Tx (NW m) 200000):=by
 unfold UD
 rw [jD]
 refine W.lt (fun b hb=>?_)
 refine W.if (fun h=>⟨_,rfl,by rw [←hb];simp at h;subst h;exact⟨by simp,rfl⟩⟩) (fun h=>?_)
 obtain⟨h1,h2⟩:=fJ (m:=m) (by subst hb;simpa using h)
 rw [←hb,show b=true by simpa using h]
 have l1:Mq.length=6:=rfl
 have l2:Lh.length=7:=rfl
 have l3:PN.length=4:=rfl
 have l4:N6.length=5:=rfl
 have l5:Li.length=7:=rfl
 have l6:J8.length=8:=rfl
 have l7:Mr.length=6:=rfl
 have l8:GK.length=6:=rfl
 have l9:Js.length=9:=rfl
 have l10:S4.length=1:=rfl
 have l11:S5.length=3:=rfl
 have l12:PO.length=4:=rfl
 have l13:Lk.length=1:=rfl
 refine W.if (fun _=>⟨_,rfl,Tx.mk (by decide) (by decide)⟩) (fun _=>?_)
 refine W.if (fun _=>W.bd (fy _) (fun r hr=>I6 1000 (by omega) (fun s hs=>⟨_,rfl,Tx.mk (by omega) (by omega)⟩))) (fun _=>?_)
 refine W.if (fun _=>W.bd (fy _) (fun r hr=>I6 1000 (by omega) (fun s hs=>⟨_,rfl,Tx.mk (by omega) (by omega)⟩))) (fun _=>?_)
 refine W.if (fun k=>I6 1000 (by have:=h1 (.inl (beq_iff_eq.1 k));omega) (fun s hs=>⟨_,rfl,Tx.mk (by have:=h1 (.inl (beq_iff_eq.1 k));omega) (by omega)⟩)) (fun _=>?_)
 refine W.if (fun k=>I6 1000 (by have:=h1 (.inr (beq_iff_eq.1 k));omega) (fun s hs=>⟨_,rfl,Tx.mk (by have:=h1 (.inr (beq_iff_eq.1 k));omega) (by omega)⟩)) (fun _=>?_)
 refine W.if (fun _=>W.bd (fA _) (fun r hr=>I6 1000 (by omega) (fun s hs=>⟨_,rfl,Tx.mk (by omega) (by omega)⟩))) (fun _=>?_)
 refine W.if (fun _=>W.bd (fA _) (fun r hr=>I6 1000 (by omega) (fun s hs=>⟨_,rfl,Tx.mk (by omega) (by omega)⟩))) (fun _=>?_)
 refine W.if (fun _=>W.bd (fK _) (fun r hr=>I6 100000 (by omega) (fun s hs=>⟨_,rfl,Tx.mk (by omega) (by omega)⟩))) (fun _=>?_)
 refine W.if (fun _=>W.bd (fK _) (fun r hr=>I6 100000 (by omega) (fun s hs=>⟨_,rfl,Tx.mk (by omega) (by omega)⟩))) (fun _=>?_)
 refine W.if (fun _=>⟨_,rfl,Tx.mk (by decide) (by decide)⟩) (fun _=>?_)
 refine W.if (fun _=>W.bd (kY _) (fun r hr=>I6 1000000 (by omega) (fun s hs=>I6 1000000 (by omega) (fun s hs=>⟨_,rfl,Tx.mk (by omega) (by omega)⟩)))) (fun _=>?_)
 have N: ∀ (p:List UInt8),p.length≤10→m.Kind=12∨m.Kind=13→W ((F9 m.N).bind fun r32=>(cat p r32).bind fun s33=>(cat s33 Lk).bind fun s34=>(F9 m.M).bind fun r35=>(cat s34 r35).bind fun s36=>some s36) (Tx true 200000):=fun p hp hk=>by
  have q:=h2 hk
  refine W.bd (aR (by omega) (by omega)) (fun r hr=>I6 1000 (by omega) (fun s hs=>I6 1000 (by omega) (fun s hs=>?_)))
  exact W.bd (aR (by omega) (by omega)) (fun r hr=>I6 1000 (by omega) (fun s hs=>⟨_,rfl,Tx.mk (by omega) (by omega)⟩))
 refine W.if (fun k=>N _ (by omega) (.inl (beq_iff_eq.1 k))) (fun _=>?_)
 refine W.if (fun k=>N _ (by omega) (.inr (beq_iff_eq.1 k))) (fun _=>⟨_,rfl,Tx.mk (by decide) (by decide)⟩)
end Go.PL
