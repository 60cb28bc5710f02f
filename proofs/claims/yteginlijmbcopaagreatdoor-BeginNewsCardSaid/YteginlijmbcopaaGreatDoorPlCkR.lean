/- Plain laws of states: texts of modifications, of lists, of prices and targets. -/
import Derived.Test.YteginlijmbcopaaGreatDoorPlCkQ
namespace Go.PL
open Go
set_option maxRecDepth 100000
set_option linter.all false
set_option maxHeartbeats 1000000
def Sk (m:AZ):Bool:=(HM m).getD false
theorem uP (m:AZ):HM m=some (Sk m):=by obtain⟨b,h⟩:=(pI m).1;unfold Sk;rw [h];rfl
theorem Aeg (m:AZ):PO m=some (Sk m):=by rw [(pI m).2,uP]
theorem Aaw {m:AZ} (h:Sk m=true):(m.Kind=4\/m.Kind=5->m.Sub.length<=32)/\(m.Kind=12\/m.Kind=13-> -99<=m.N/\m.N<=99/\ -99<=m.M/\m.M<=99):=by
 have e:=uP m;rw [h]at e;obtain⟨k,n,p,s,f⟩:=m;refine⟨?_,?_⟩
 ·dsimp only;rintro(rfl | rfl)
  all_goals
   simp [jn,HM,MM,KO,KN,MA,IA,IC,IB,GJ,Aaj,XK,qe,gdt,lY,dc,ba,qf,ux]at e;simp_all [pH,iL]
 ·dsimp only;rintro(rfl | rfl)
  all_goals
   simp [jn,HM,MM,KO,KN,MA,IA,IC,IB,GJ,Aaj,XK,qe,gdt,lY,dc,ba,qf,ux]at e;omega
def Tx (b:Bool) (n:Nat) (r:List UInt8):Prop:=r.length<=n/\(r==[])= !b
theorem Tx.mk {n:Nat} {r:List UInt8} (h:r.length<=n) (h0:0<r.length):Tx true n r:=⟨h,by cases r<;>simp at *⟩
theorem AjT (m:AZ):W (Um m) (Tx (Sk m) 200000):=by
 unfold Um;rw [uP];refine W.lt (fun b hb=>?_);refine W.if (fun h=>⟨_,rfl,by rw [<-hb];simp at h;subst h;exact⟨by simp,rfl⟩⟩) (fun h=>?_)
 obtain⟨h1,h2⟩:=Aaw (m:=m) (by subst hb;simpa using h);rw [<-hb,show b=true by simpa using h];have l1:Np.length=6:=rfl;have l2:Lo.length=7:=rfl;have l3:TA.length=4:=rfl;have l4:Qj.length=5:=rfl;have l5:Lp.length=7:=rfl;have l6:Jm.length=8:=rfl;have l7:Nu.length=6:=rfl;have l8:Ee.length=6:=rfl;have l9:HZ.length=9:=rfl;have l10:YK.length=1:=rfl;have l11:YL.length=3:=rfl;have l12:TB.length=4:=rfl;have l13:Lq.length=1:=rfl;refine W.if (fun _=>⟨_,rfl,Tx.mk (by decide) (by decide)⟩) (fun _=>?_)
 refine W.if (fun _=>W.bd (Ac6 _) (fun r hr=>HD 1000 (by omega) (fun s hs=>⟨_,rfl,Tx.mk (by omega) (by omega)⟩))) (fun _=>?_)
 refine W.if (fun _=>W.bd (Ac6 _) (fun r hr=>HD 1000 (by omega) (fun s hs=>⟨_,rfl,Tx.mk (by omega) (by omega)⟩))) (fun _=>?_)
 refine W.if (fun k=>HD 1000 (by grind) (fun s hs=>⟨_,rfl,Tx.mk (by grind) (by omega)⟩)) (fun _=>?_)
 refine W.if (fun k=>HD 1000 (by grind) (fun s hs=>⟨_,rfl,Tx.mk (by grind) (by omega)⟩)) (fun _=>?_)
 refine W.if (fun _=>W.bd (AhZ _) (fun r hr=>HD 1000 (by omega) (fun s hs=>⟨_,rfl,Tx.mk (by omega) (by omega)⟩))) (fun _=>?_)
 refine W.if (fun _=>W.bd (AhZ _) (fun r hr=>HD 1000 (by omega) (fun s hs=>⟨_,rfl,Tx.mk (by omega) (by omega)⟩))) (fun _=>?_)
 refine W.if (fun _=>W.bd (Ah0 _) (fun r hr=>HD 100000 (by omega) (fun s hs=>⟨_,rfl,Tx.mk (by omega) (by omega)⟩))) (fun _=>?_)
 refine W.if (fun _=>W.bd (Ah0 _) (fun r hr=>HD 100000 (by omega) (fun s hs=>⟨_,rfl,Tx.mk (by omega) (by omega)⟩))) (fun _=>?_)
 refine W.if (fun _=>⟨_,rfl,Tx.mk (by decide) (by decide)⟩) (fun _=>?_)
 refine W.if (fun _=>W.bd (Ah2 _) (fun r hr=>HD 1000000 (by omega) (fun s hs=>HD 1000000 (by omega) (fun s hs=>⟨_,rfl,Tx.mk (by omega) (by omega)⟩)))) (fun _=>?_)
 have N: ∀ (p:List UInt8),p.length<=10->m.Kind=12\/m.Kind=13->W ((Db m.N).bind fun r32=>(cat p r32).bind fun s33=>(cat s33 Lq).bind fun s34=>(Db m.M).bind fun r35=>(cat s34 r35).bind fun s36=>some s36) (Tx true 200000):=fun p hp hk=>by have q:=h2 hk;refine W.bd (Ac5 (by omega) (by omega)) (fun r hr=>HD 1000 (by omega) (fun s hs=>HD 1000 (by omega) (fun s hs=>?_)));exact W.bd (Ac5 (by omega) (by omega)) (fun r hr=>HD 1000 (by omega) (fun s hs=>⟨_,rfl,Tx.mk (by omega) (by omega)⟩))
 refine W.if (by grind) (fun _=>?_)
 refine W.if (by grind) (fun _=>⟨_,rfl,Tx.mk (by decide) (by decide)⟩)
theorem Aax (a:Int):W (PF a) (fun r=>r.length<=2000):=by
 unfold PF jn;have: ∃ b,Pr a=some b:=⟨_,by unfold Pr;rfl⟩;obtain⟨b,hb⟩:=this;rw [hb];refine W.lt (fun b hb=>?_);refine W.if (fun _=>⟨_,rfl,by simp⟩) (fun h=>?_)
 refine W.it (fun(v:Int×List UInt8×Int)=>0<=v.2.2/\v.2.2<=17/\(v.2.1.length:Int)<=41*v.2.2) (fun v=>((17:Int) - v.2.2).toNat) (by grind) (by grind) (fun v hv=>?_);obtain⟨k,s,i⟩:=v;obtain⟨h1,h2,h3⟩:=hv;dsimp only at h1 h2 h3 ⊢;unfold Uj jn;have w:=A7 (x:=i+1) (by omega) (by omega);have J: ∀ s:List UInt8,(s.length:Int)<=41*i+1->i<17->W (NN i (fun v=>Jr k i v) s) (LQ (fun(v:Int×List UInt8×Int)=>0<=v.2.2/\v.2.2<=17/\(v.2.1.length:Int)<=41*v.2.2) (fun v=>((17:Int) - v.2.2).toNat) (k,s,i) (fun r=>W (PE r) (fun r=>r.length<=2000))):=fun s hs hi=>by unfold NN;refine W.bd (rS Aam h1 (by omega)) (fun e he=>?_);refine HD 100000 (by omega) (fun s' hs'=>?_);grind [Jr,W.nx]
 refine W.if (fun hi=>?_) (fun _=>W.ex ?_)
 ·have hi:=of_decide_eq_true hi;refine W.if (fun _=>?_) (by grind [Jr,W.nx])
  refine W.if (fun _=>?_) (by grind)
  have:Ln.length=1:=rfl;exact HD 100000 (by omega) (fun s' hs'=>J s' (by omega) hi)
 ·unfold PE;exact W.if (fun _=>⟨_,rfl,by decide⟩) (fun _=>⟨_,rfl,by omega⟩)
theorem Ah9 (m:AZ):W (UA m) (Tx (Sk m) 200000):=by
 unfold UA;rw [Aeg];refine W.lt (fun b hb=>?_);refine W.if (fun h=>⟨_,rfl,by rw [<-hb];simp at h;subst h;exact⟨by simp,rfl⟩⟩) (fun h=>?_)
 obtain⟨h1,h2⟩:=Aaw (m:=m) (by subst hb;simpa using h);rw [<-hb,show b=true by simpa using h];have l1:Np.length=6:=rfl;have l2:Lo.length=7:=rfl;have l3:TA.length=4:=rfl;have l4:Qj.length=5:=rfl;have l5:Lp.length=7:=rfl;have l6:Jm.length=8:=rfl;have l7:Nu.length=6:=rfl;have l8:Ee.length=6:=rfl;have l9:HZ.length=9:=rfl;have l10:YK.length=1:=rfl;have l11:YL.length=3:=rfl;have l12:TB.length=4:=rfl;have l13:Lq.length=1:=rfl;refine W.if (fun _=>⟨_,rfl,Tx.mk (by decide) (by decide)⟩) (fun _=>?_)
 refine W.if (fun _=>W.bd (Aan _) (fun r hr=>HD 1000 (by omega) (fun s hs=>⟨_,rfl,Tx.mk (by omega) (by omega)⟩))) (fun _=>?_)
 refine W.if (fun _=>W.bd (Aan _) (fun r hr=>HD 1000 (by omega) (fun s hs=>⟨_,rfl,Tx.mk (by omega) (by omega)⟩))) (fun _=>?_)
 refine W.if (fun k=>HD 1000 (by grind) (fun s hs=>⟨_,rfl,Tx.mk (by grind) (by omega)⟩)) (fun _=>?_)
 refine W.if (fun k=>HD 1000 (by grind) (fun s hs=>⟨_,rfl,Tx.mk (by grind) (by omega)⟩)) (fun _=>?_)
 refine W.if (fun _=>W.bd (Aao _) (fun r hr=>HD 1000 (by omega) (fun s hs=>⟨_,rfl,Tx.mk (by omega) (by omega)⟩))) (fun _=>?_)
 refine W.if (fun _=>W.bd (Aao _) (fun r hr=>HD 1000 (by omega) (fun s hs=>⟨_,rfl,Tx.mk (by omega) (by omega)⟩))) (fun _=>?_)
 refine W.if (fun _=>W.bd (Aax _) (fun r hr=>HD 100000 (by omega) (fun s hs=>⟨_,rfl,Tx.mk (by omega) (by omega)⟩))) (fun _=>?_)
 refine W.if (fun _=>W.bd (Aax _) (fun r hr=>HD 100000 (by omega) (fun s hs=>⟨_,rfl,Tx.mk (by omega) (by omega)⟩))) (fun _=>?_)
 refine W.if (fun _=>⟨_,rfl,Tx.mk (by decide) (by decide)⟩) (fun _=>?_)
 refine W.if (fun _=>W.bd (Agx _) (fun r hr=>HD 1000000 (by omega) (fun s hs=>HD 1000000 (by omega) (fun s hs=>⟨_,rfl,Tx.mk (by omega) (by omega)⟩)))) (fun _=>?_)
 have N: ∀ (p:List UInt8),p.length<=10->m.Kind=12\/m.Kind=13->W ((Dw m.N).bind fun r32=>(cat p r32).bind fun s33=>(cat s33 Lq).bind fun s34=>(Dw m.M).bind fun r35=>(cat s34 r35).bind fun s36=>some s36) (Tx true 200000):=fun p hp hk=>by have q:=h2 hk;refine W.bd (sW (by omega) (by omega)) (fun r hr=>HD 1000 (by omega) (fun s hs=>HD 1000 (by omega) (fun s hs=>?_)));exact W.bd (sW (by omega) (by omega)) (fun r hr=>HD 1000 (by omega) (fun s hs=>⟨_,rfl,Tx.mk (by omega) (by omega)⟩))
 refine W.if (by grind) (fun _=>?_)
 refine W.if (by grind) (fun _=>⟨_,rfl,Tx.mk (by decide) (by decide)⟩)
end Go.PL
