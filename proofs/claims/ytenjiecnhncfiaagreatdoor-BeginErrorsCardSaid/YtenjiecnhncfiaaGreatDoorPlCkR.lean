/- Plain laws of states: texts of modifications, of lists, of prices and targets. -/
import Derived.Test.YtenjiecnhncfiaaGreatDoorPlCkQ
namespace Go.PL
open Go
set_option maxRecDepth 100000
set_option linter.all false
set_option maxHeartbeats 1000000
def PG (m:A1):Bool:=(HB m).getD false
theorem sZ (m:A1):HB m=some (PG m):=by obtain⟨b,h⟩:=(nV m).1;unfold PG;rw [h];rfl
theorem Acx (m:A1):Px m=some (PG m):=by rw [(nV m).2,sZ]
theorem yH {m:A1} (h:PG m=true):(m.Kind=4\/m.Kind=5->m.Sub.length<=32)/\(m.Kind=12\/m.Kind=13-> -99<=m.N/\m.N<=99/\ -99<=m.M/\m.M<=99):=by
 have e:=sZ m;rw [h]at e;obtain⟨k,n,p,s,f⟩:=m;refine⟨?_,?_⟩
 ·dsimp only;rintro(rfl | rfl)
  all_goals
   simp [jn,HB,Mx,KF,KE,Ml,Iu,Iw,Iv,GH,yt,Xr,oC,yu,kI,Vp,SR,oD,sK]at e;have e2:=e.2;unfold V8 at e2;rw [Bool.and_eq_true]at e2;exact hH e2.1
 ·dsimp only;rintro(rfl | rfl)
  all_goals
   simp [jn,HB,Mx,KF,KE,Ml,Iu,Iw,Iv,GH,yt,Xr,oC,yu,kI,Vp,SR,oD,sK]at e;omega
def Tx (b:Bool) (n:Nat) (r:List UInt8):Prop:=r.length<=n/\(r==[])= !b
theorem Tx.mk {n:Nat} {r:List UInt8} (h:r.length<=n) (h0:0<r.length):Tx true n r:=⟨h,by cases r<;>simp at *⟩
theorem Ah2 (m:A1):W (T7 m) (Tx (PG m) 200000):=by
 unfold T7;rw [sZ];refine W.lt (fun b hb=>?_);refine W.if (fun h=>⟨_,rfl,by rw [<-hb];simp at h;subst h;exact⟨by simp,rfl⟩⟩) (fun h=>?_)
 obtain⟨h1,h2⟩:=yH (m:=m) (by subst hb;simpa using h);rw [<-hb,show b=true by simpa using h];have l1:Ng.length=6:=rfl;have l2:La.length=7:=rfl;have l3:SV.length=4:=rfl;have l4:P5.length=5:=rfl;have l5:Lb.length=7:=rfl;have l6:Jd.length=8:=rfl;have l7:Nl.length=6:=rfl;have l8:D9.length=6:=rfl;have l9:HS.length=9:=rfl;have l10:YO.length=1:=rfl;have l11:YP.length=3:=rfl;have l12:SW.length=4:=rfl;have l13:Lc.length=1:=rfl;refine W.if (fun _=>⟨_,rfl,Tx.mk (by decide) (by decide)⟩) (fun _=>?_)
 refine W.if (fun _=>W.bd (Abn _) (fun r hr=>Hr 1000 (by omega) (fun s hs=>⟨_,rfl,Tx.mk (by omega) (by omega)⟩))) (fun _=>?_)
 refine W.if (fun _=>W.bd (Abn _) (fun r hr=>Hr 1000 (by omega) (fun s hs=>⟨_,rfl,Tx.mk (by omega) (by omega)⟩))) (fun _=>?_)
 refine W.if (fun k=>Hr 1000 (by have:=h1 (.inl (beq_iff_eq.1 k));omega) (fun s hs=>⟨_,rfl,Tx.mk (by have:=h1 (.inl (beq_iff_eq.1 k));omega) (by omega)⟩)) (fun _=>?_)
 refine W.if (fun k=>Hr 1000 (by have:=h1 (.inr (beq_iff_eq.1 k));omega) (fun s hs=>⟨_,rfl,Tx.mk (by have:=h1 (.inr (beq_iff_eq.1 k));omega) (by omega)⟩)) (fun _=>?_)
 refine W.if (fun _=>W.bd (Agf _) (fun r hr=>Hr 1000 (by omega) (fun s hs=>⟨_,rfl,Tx.mk (by omega) (by omega)⟩))) (fun _=>?_)
 refine W.if (fun _=>W.bd (Agf _) (fun r hr=>Hr 1000 (by omega) (fun s hs=>⟨_,rfl,Tx.mk (by omega) (by omega)⟩))) (fun _=>?_)
 refine W.if (fun _=>W.bd (Agg _) (fun r hr=>Hr 100000 (by omega) (fun s hs=>⟨_,rfl,Tx.mk (by omega) (by omega)⟩))) (fun _=>?_)
 refine W.if (fun _=>W.bd (Agg _) (fun r hr=>Hr 100000 (by omega) (fun s hs=>⟨_,rfl,Tx.mk (by omega) (by omega)⟩))) (fun _=>?_)
 refine W.if (fun _=>⟨_,rfl,Tx.mk (by decide) (by decide)⟩) (fun _=>?_)
 refine W.if (fun _=>W.bd (Agi _) (fun r hr=>Hr 1000000 (by omega) (fun s hs=>Hr 1000000 (by omega) (fun s hs=>⟨_,rfl,Tx.mk (by omega) (by omega)⟩)))) (fun _=>?_)
 have N: ∀ (p:List UInt8),p.length<=10->m.Kind=12\/m.Kind=13->W ((Dd m.N).bind fun r32=>(cat p r32).bind fun s33=>(cat s33 Lc).bind fun s34=>(Dd m.M).bind fun r35=>(cat s34 r35).bind fun s36=>some s36) (Tx true 200000):=fun p hp hk=>by have q:=h2 hk;refine W.bd (Abm (by omega) (by omega)) (fun r hr=>Hr 1000 (by omega) (fun s hs=>Hr 1000 (by omega) (fun s hs=>?_)));exact W.bd (Abm (by omega) (by omega)) (fun r hr=>Hr 1000 (by omega) (fun s hs=>⟨_,rfl,Tx.mk (by omega) (by omega)⟩))
 refine W.if (fun k=>N _ (by omega) (.inl (beq_iff_eq.1 k))) (fun _=>?_)
 refine W.if (fun k=>N _ (by omega) (.inr (beq_iff_eq.1 k))) (fun _=>⟨_,rfl,Tx.mk (by decide) (by decide)⟩)
theorem yI (a:Int):W (Pr a) (fun r=>r.length<=2000):=by
 unfold Pr jn;have: ∃ b,Pf a=some b:=⟨_,by unfold Pf;rfl⟩;obtain⟨b,hb⟩:=this;rw [hb];refine W.lt (fun b hb=>?_);refine W.if (fun _=>⟨_,rfl,by simp⟩) (fun h=>?_)
 refine W.it (fun(v:Int×List UInt8×Int)=>0<=v.2.2/\v.2.2<=17/\(v.2.1.length:Int)<=41*v.2.2) (fun v=>((17:Int) - v.2.2).toNat) ⟨by simp,by simp,by simp⟩ (by dsimp only;omega) (fun v hv=>?_);obtain⟨k,s,i⟩:=v;obtain⟨h1,h2,h3⟩:=hv;dsimp only at h1 h2 h3 ⊢;unfold T4 jn;have w:=AU (x:=i+1) (by omega) (by omega);have J: ∀ s:List UInt8,(s.length:Int)<=41*i+1->i<17->W (NF i (fun v=>Ji k i v) s) (LQ (fun(v:Int×List UInt8×Int)=>0<=v.2.2/\v.2.2<=17/\(v.2.1.length:Int)<=41*v.2.2) (fun v=>((17:Int) - v.2.2).toNat) (k,s,i) (fun r=>W (Pq r) (fun r=>r.length<=2000))):=fun s hs hi=>by unfold NF;refine W.bd (ql yw h1 (by omega)) (fun e he=>?_);refine Hr 100000 (by omega) (fun s' hs'=>?_);unfold Ji;exact W.nx (by dsimp only;omega) (by dsimp only;omega)
 refine W.if (fun hi=>?_) (fun _=>W.ex ?_)
 ·have hi:=of_decide_eq_true hi;refine W.if (fun _=>?_) (fun _=>by unfold Ji;exact W.nx (by dsimp only;omega) (by dsimp only;omega))
  refine W.if (fun _=>?_) (fun _=>J s (by omega) hi)
  have:K9.length=1:=rfl;exact Hr 100000 (by omega) (fun s' hs'=>J s' (by omega) hi)
 ·unfold Pq;exact W.if (fun _=>⟨_,rfl,by decide⟩) (fun _=>⟨_,rfl,by omega⟩)
theorem Agp (m:A1):W (Ul m) (Tx (PG m) 200000):=by
 unfold Ul;rw [Acx];refine W.lt (fun b hb=>?_);refine W.if (fun h=>⟨_,rfl,by rw [<-hb];simp at h;subst h;exact⟨by simp,rfl⟩⟩) (fun h=>?_)
 obtain⟨h1,h2⟩:=yH (m:=m) (by subst hb;simpa using h);rw [<-hb,show b=true by simpa using h];have l1:Ng.length=6:=rfl;have l2:La.length=7:=rfl;have l3:SV.length=4:=rfl;have l4:P5.length=5:=rfl;have l5:Lb.length=7:=rfl;have l6:Jd.length=8:=rfl;have l7:Nl.length=6:=rfl;have l8:D9.length=6:=rfl;have l9:HS.length=9:=rfl;have l10:YO.length=1:=rfl;have l11:YP.length=3:=rfl;have l12:SW.length=4:=rfl;have l13:Lc.length=1:=rfl;refine W.if (fun _=>⟨_,rfl,Tx.mk (by decide) (by decide)⟩) (fun _=>?_)
 refine W.if (fun _=>W.bd (yx _) (fun r hr=>Hr 1000 (by omega) (fun s hs=>⟨_,rfl,Tx.mk (by omega) (by omega)⟩))) (fun _=>?_)
 refine W.if (fun _=>W.bd (yx _) (fun r hr=>Hr 1000 (by omega) (fun s hs=>⟨_,rfl,Tx.mk (by omega) (by omega)⟩))) (fun _=>?_)
 refine W.if (fun k=>Hr 1000 (by have:=h1 (.inl (beq_iff_eq.1 k));omega) (fun s hs=>⟨_,rfl,Tx.mk (by have:=h1 (.inl (beq_iff_eq.1 k));omega) (by omega)⟩)) (fun _=>?_)
 refine W.if (fun k=>Hr 1000 (by have:=h1 (.inr (beq_iff_eq.1 k));omega) (fun s hs=>⟨_,rfl,Tx.mk (by have:=h1 (.inr (beq_iff_eq.1 k));omega) (by omega)⟩)) (fun _=>?_)
 refine W.if (fun _=>W.bd (yz _) (fun r hr=>Hr 1000 (by omega) (fun s hs=>⟨_,rfl,Tx.mk (by omega) (by omega)⟩))) (fun _=>?_)
 refine W.if (fun _=>W.bd (yz _) (fun r hr=>Hr 1000 (by omega) (fun s hs=>⟨_,rfl,Tx.mk (by omega) (by omega)⟩))) (fun _=>?_)
 refine W.if (fun _=>W.bd (yI _) (fun r hr=>Hr 100000 (by omega) (fun s hs=>⟨_,rfl,Tx.mk (by omega) (by omega)⟩))) (fun _=>?_)
 refine W.if (fun _=>W.bd (yI _) (fun r hr=>Hr 100000 (by omega) (fun s hs=>⟨_,rfl,Tx.mk (by omega) (by omega)⟩))) (fun _=>?_)
 refine W.if (fun _=>⟨_,rfl,Tx.mk (by decide) (by decide)⟩) (fun _=>?_)
 refine W.if (fun _=>W.bd (AeK _) (fun r hr=>Hr 1000000 (by omega) (fun s hs=>Hr 1000000 (by omega) (fun s hs=>⟨_,rfl,Tx.mk (by omega) (by omega)⟩)))) (fun _=>?_)
 have N: ∀ (p:List UInt8),p.length<=10->m.Kind=12\/m.Kind=13->W ((Dy m.N).bind fun r32=>(cat p r32).bind fun s33=>(cat s33 Lc).bind fun s34=>(Dy m.M).bind fun r35=>(cat s34 r35).bind fun s36=>some s36) (Tx true 200000):=fun p hp hk=>by have q:=h2 hk;refine W.bd (rk (by omega) (by omega)) (fun r hr=>Hr 1000 (by omega) (fun s hs=>Hr 1000 (by omega) (fun s hs=>?_)));exact W.bd (rk (by omega) (by omega)) (fun r hr=>Hr 1000 (by omega) (fun s hs=>⟨_,rfl,Tx.mk (by omega) (by omega)⟩))
 refine W.if (fun k=>N _ (by omega) (.inl (beq_iff_eq.1 k))) (fun _=>?_)
 refine W.if (fun k=>N _ (by omega) (.inr (beq_iff_eq.1 k))) (fun _=>⟨_,rfl,Tx.mk (by decide) (by decide)⟩)
end Go.PL
