/- Plain laws of states: texts of modifications, of lists, of prices and targets. -/
import Derived.Test.YtelbpfkjhndccaaGreatDoorPlSbQ
namespace Go.PL
open Go
set_option maxRecDepth 100000
set_option linter.all false
set_option maxHeartbeats 1000000
def QO (m:Bq):Bool:=(KA m).getD false
theorem ir (m:Bq):KA m=some (QO m):=by
 obtain⟨b,h⟩:=(da m).1
 unfold QO;rw [h];rfl
theorem pQ (m:Bq):PB m=some (QO m):=by rw [(da m).2,ir]
theorem mv {m:Bq} (h:QO m=true):(m.Kind=4∨m.Kind=5→m.Sub.length≤32)∧(m.Kind=12∨m.Kind=13→ -99≤m.N∧m.N≤99∧ -99≤m.M∧m.M≤99):=by
 have e:=ir m
 rw [h]at e
 obtain⟨k,n,p,s,f⟩:=m
 refine⟨?_,?_⟩
 ·dsimp only
  rintro(rfl | rfl)
  all_goals
   simp [KA,IB,G1,G0,No,DF,Di,Fv,EC,me,W5,Sd,ii,Z9,Ph,PP,aq,ku]at e
   have e2:=e.2
   unfold c8 at e2
   rw [Bool.and_eq_true]at e2
   exact YH e2.1
 ·dsimp only
  rintro(rfl | rfl)
  all_goals
   simp [KA,IB,G1,G0,No,DF,Di,Fv,EC,me,W5,Sd,ii,Z9,Ph,PP,aq,ku]at e
   omega
def Tx (b:Bool) (n:Nat) (r:List UInt8):Prop:=r.length≤n∧(r==[])= !b
theorem Tx.mk {n:Nat} {r:List UInt8} (h:r.length≤n) (h0:0<r.length):Tx true n r:=⟨h,by cases r<;>simp at *⟩
theorem uH (m:Bq):W (QD m) (Tx (QO m) 200000):=by
 unfold QD
 rw [ir]
 refine W.lt (fun b hb=>?_)
 refine W.if (fun h=>⟨_,rfl,by rw [←hb];simp at h;subst h;exact⟨by simp,rfl⟩⟩) (fun h=>?_)
 obtain⟨h1,h2⟩:=mv (m:=m) (by subst hb;simpa using h)
 rw [←hb,show b=true by simpa using h]
 have l1:Pj.length=6:=rfl
 have l2:NP.length=7:=rfl
 have l3:SF.length=4:=rfl
 have l4:Q1.length=5:=rfl
 have l5:NQ.length=7:=rfl
 have l6:Mp.length=8:=rfl
 have l7:Pk.length=6:=rfl
 have l8:HI.length=6:=rfl
 have l9:Ln.length=9:=rfl
 have l10:Vo.length=1:=rfl
 have l11:Vp.length=3:=rfl
 have l12:SG.length=4:=rfl
 have l13:NS.length=1:=rfl
 refine W.if (fun _=>⟨_,rfl,Tx.mk (by decide) (by decide)⟩) (fun _=>?_)
 refine W.if (fun _=>W.bd (oe _) (fun r hr=>KX 1000 (by omega) (fun s hs=>⟨_,rfl,Tx.mk (by omega) (by omega)⟩))) (fun _=>?_)
 refine W.if (fun _=>W.bd (oe _) (fun r hr=>KX 1000 (by omega) (fun s hs=>⟨_,rfl,Tx.mk (by omega) (by omega)⟩))) (fun _=>?_)
 refine W.if (fun k=>KX 1000 (by have:=h1 (.inl (beq_iff_eq.1 k));omega) (fun s hs=>⟨_,rfl,Tx.mk (by have:=h1 (.inl (beq_iff_eq.1 k));omega) (by omega)⟩)) (fun _=>?_)
 refine W.if (fun k=>KX 1000 (by have:=h1 (.inr (beq_iff_eq.1 k));omega) (fun s hs=>⟨_,rfl,Tx.mk (by have:=h1 (.inr (beq_iff_eq.1 k));omega) (by omega)⟩)) (fun _=>?_)
 refine W.if (fun _=>W.bd (tb _) (fun r hr=>KX 1000 (by omega) (fun s hs=>⟨_,rfl,Tx.mk (by omega) (by omega)⟩))) (fun _=>?_)
 refine W.if (fun _=>W.bd (tb _) (fun r hr=>KX 1000 (by omega) (fun s hs=>⟨_,rfl,Tx.mk (by omega) (by omega)⟩))) (fun _=>?_)
 refine W.if (fun _=>W.bd (tc _) (fun r hr=>KX 100000 (by omega) (fun s hs=>⟨_,rfl,Tx.mk (by omega) (by omega)⟩))) (fun _=>?_)
 refine W.if (fun _=>W.bd (tc _) (fun r hr=>KX 100000 (by omega) (fun s hs=>⟨_,rfl,Tx.mk (by omega) (by omega)⟩))) (fun _=>?_)
 refine W.if (fun _=>⟨_,rfl,Tx.mk (by decide) (by decide)⟩) (fun _=>?_)
 refine W.if (fun _=>W.bd (te _) (fun r hr=>KX 1000000 (by omega) (fun s hs=>KX 1000000 (by omega) (fun s hs=>⟨_,rfl,Tx.mk (by omega) (by omega)⟩)))) (fun _=>?_)
 have N: ∀ (p:List UInt8),p.length≤10→m.Kind=12∨m.Kind=13→W ((E3 m.N).bind fun r32=>(cat p r32).bind fun s33=>(cat s33 NS).bind fun s34=>(E3 m.M).bind fun r35=>(cat s34 r35).bind fun s36=>some s36) (Tx true 200000):=fun p hp hk=>by
  have q:=h2 hk
  refine W.bd (od (by omega) (by omega)) (fun r hr=>KX 1000 (by omega) (fun s hs=>KX 1000 (by omega) (fun s hs=>?_)))
  exact W.bd (od (by omega) (by omega)) (fun r hr=>KX 1000 (by omega) (fun s hs=>⟨_,rfl,Tx.mk (by omega) (by omega)⟩))
 refine W.if (fun k=>N _ (by omega) (.inl (beq_iff_eq.1 k))) (fun _=>?_)
 refine W.if (fun k=>N _ (by omega) (.inr (beq_iff_eq.1 k))) (fun _=>⟨_,rfl,Tx.mk (by decide) (by decide)⟩)
theorem mw (a:Int):W (OW a) (fun r=>r.length≤2000):=by
 unfold OW
 have: ∃ b,WE a=some b:=⟨_,by unfold WE;rfl⟩
 obtain⟨b,hb⟩:=this
 rw [hb]
 refine W.lt (fun b hb=>?_)
 refine W.if (fun _=>⟨_,rfl,by simp⟩) (fun h=>?_)
 refine W.it (fun(v:Int×List UInt8×Int)=>0≤v.2.2∧v.2.2≤17∧(v.2.1.length:Int)≤41*v.2.2) (fun v=>((17:Int) - v.2.2).toNat) ⟨by simp,by simp,by simp⟩ (by dsimp only;omega) (fun v hv=>?_)
 obtain⟨k,s,i⟩:=v
 obtain⟨h1,h2,h3⟩:=hv
 dsimp only at h1 h2 h3 ⊢
 unfold MD
 have w:=BD (x:=i+1) (by omega) (by omega)
 have J: ∀ s:List UInt8,(s.length:Int)≤41*i+1→i<17→W (GY k i s) (LQ (fun(v:Int×List UInt8×Int)=>0≤v.2.2∧v.2.2≤17∧(v.2.1.length:Int)≤41*v.2.2) (fun v=>((17:Int) - v.2.2).toNat) (k,s,i) (fun r=>W (J6 r) (fun r=>r.length≤2000))):=fun s hs hi=>by
  unfold GY
  refine W.bd (fc mg h1 (by omega)) (fun e he=>?_)
  refine KX 100000 (by omega) (fun s' hs'=>?_)
  unfold GX
  exact W.nx (by dsimp only;omega) (by dsimp only;omega)
 refine W.if (fun hi=>?_) (fun _=>W.ex ?_)
 ·have hi:=of_decide_eq_true hi
  refine W.if (fun _=>?_) (fun _=>by unfold GX;exact W.nx (by dsimp only;omega) (by dsimp only;omega))
  refine W.if (fun _=>?_) (fun _=>J s (by omega) hi)
  have:NO.length=1:=rfl
  exact KX 100000 (by omega) (fun s' hs'=>J s' (by omega) hi)
 ·unfold J6
  exact W.if (fun _=>⟨_,rfl,by decide⟩) (fun _=>⟨_,rfl,by omega⟩)
theorem tl (m:Bq):W (QH m) (Tx (QO m) 200000):=by
 unfold QH
 rw [pQ]
 refine W.lt (fun b hb=>?_)
 refine W.if (fun h=>⟨_,rfl,by rw [←hb];simp at h;subst h;exact⟨by simp,rfl⟩⟩) (fun h=>?_)
 obtain⟨h1,h2⟩:=mv (m:=m) (by subst hb;simpa using h)
 rw [←hb,show b=true by simpa using h]
 have l1:Pj.length=6:=rfl
 have l2:NP.length=7:=rfl
 have l3:SF.length=4:=rfl
 have l4:Q1.length=5:=rfl
 have l5:NQ.length=7:=rfl
 have l6:Mp.length=8:=rfl
 have l7:Pk.length=6:=rfl
 have l8:HI.length=6:=rfl
 have l9:Ln.length=9:=rfl
 have l10:Vo.length=1:=rfl
 have l11:Vp.length=3:=rfl
 have l12:SG.length=4:=rfl
 have l13:NS.length=1:=rfl
 refine W.if (fun _=>⟨_,rfl,Tx.mk (by decide) (by decide)⟩) (fun _=>?_)
 refine W.if (fun _=>W.bd (mh _) (fun r hr=>KX 1000 (by omega) (fun s hs=>⟨_,rfl,Tx.mk (by omega) (by omega)⟩))) (fun _=>?_)
 refine W.if (fun _=>W.bd (mh _) (fun r hr=>KX 1000 (by omega) (fun s hs=>⟨_,rfl,Tx.mk (by omega) (by omega)⟩))) (fun _=>?_)
 refine W.if (fun k=>KX 1000 (by have:=h1 (.inl (beq_iff_eq.1 k));omega) (fun s hs=>⟨_,rfl,Tx.mk (by have:=h1 (.inl (beq_iff_eq.1 k));omega) (by omega)⟩)) (fun _=>?_)
 refine W.if (fun k=>KX 1000 (by have:=h1 (.inr (beq_iff_eq.1 k));omega) (fun s hs=>⟨_,rfl,Tx.mk (by have:=h1 (.inr (beq_iff_eq.1 k));omega) (by omega)⟩)) (fun _=>?_)
 refine W.if (fun _=>W.bd (mi _) (fun r hr=>KX 1000 (by omega) (fun s hs=>⟨_,rfl,Tx.mk (by omega) (by omega)⟩))) (fun _=>?_)
 refine W.if (fun _=>W.bd (mi _) (fun r hr=>KX 1000 (by omega) (fun s hs=>⟨_,rfl,Tx.mk (by omega) (by omega)⟩))) (fun _=>?_)
 refine W.if (fun _=>W.bd (mw _) (fun r hr=>KX 100000 (by omega) (fun s hs=>⟨_,rfl,Tx.mk (by omega) (by omega)⟩))) (fun _=>?_)
 refine W.if (fun _=>W.bd (mw _) (fun r hr=>KX 100000 (by omega) (fun s hs=>⟨_,rfl,Tx.mk (by omega) (by omega)⟩))) (fun _=>?_)
 refine W.if (fun _=>⟨_,rfl,Tx.mk (by decide) (by decide)⟩) (fun _=>?_)
 refine W.if (fun _=>W.bd (rq _) (fun r hr=>KX 1000000 (by omega) (fun s hs=>KX 1000000 (by omega) (fun s hs=>⟨_,rfl,Tx.mk (by omega) (by omega)⟩)))) (fun _=>?_)
 have N: ∀ (p:List UInt8),p.length≤10→m.Kind=12∨m.Kind=13→W ((FC m.N).bind fun r32=>(cat p r32).bind fun s33=>(cat s33 NS).bind fun s34=>(FC m.M).bind fun r35=>(cat s34 r35).bind fun s36=>some s36) (Tx true 200000):=fun p hp hk=>by
  have q:=h2 hk
  refine W.bd (fU (by omega) (by omega)) (fun r hr=>KX 1000 (by omega) (fun s hs=>KX 1000 (by omega) (fun s hs=>?_)))
  exact W.bd (fU (by omega) (by omega)) (fun r hr=>KX 1000 (by omega) (fun s hs=>⟨_,rfl,Tx.mk (by omega) (by omega)⟩))
 refine W.if (fun k=>N _ (by omega) (.inl (beq_iff_eq.1 k))) (fun _=>?_)
 refine W.if (fun k=>N _ (by omega) (.inr (beq_iff_eq.1 k))) (fun _=>⟨_,rfl,Tx.mk (by decide) (by decide)⟩)
end Go.PL
