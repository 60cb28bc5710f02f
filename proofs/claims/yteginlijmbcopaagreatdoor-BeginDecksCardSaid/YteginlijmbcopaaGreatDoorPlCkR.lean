/- Plain laws of states: texts of modifications, of lists, of prices and targets. -/
import Derived.Test.YteginlijmbcopaaGreatDoorPlCkQ
namespace Go.PL
open Go
set_option maxRecDepth 100000
set_option linter.all false
set_option maxHeartbeats 1000000
def lM (m:B4):Bool:=(LR m).getD false
theorem wK (m:B4):LR m=some (lM m):=by obtain⟨b,h⟩:=Ae2 m;unfold lM;rw [h];rfl
theorem Ady {m:B4} (h:lM m=true):(m.Kind=4\/m.Kind=5->m.Sub.length<=32)/\(m.Kind=12\/m.Kind=13-> -99<=m.N/\m.N<=99/\ -99<=m.M/\m.M<=99):=by
 have e:=wK m;rw [h]at e;obtain⟨k,n,p,s,f⟩:=m;refine⟨?_,?_⟩
 ·dsimp only;rintro(rfl | rfl)
  all_goals
   simp [jn,LR,Pv,Np,No,OG,Lh,Lj,Li,Jq,zT,dV,gdB,gdt,gdf,zb,zc,ifN,ifP]at e;simp_all [wB,dX]
 ·dsimp only;rintro(rfl | rfl)
  all_goals
   simp [jn,LR,Pv,Np,No,OG,Lh,Lj,Li,Jq,zT,dV,gdB,gdt,gdf,zb,zc,ifN,ifP]at e;omega
def Tx (b:Bool) (n:Nat) (r:List UInt8):Prop:=r.length<=n/\(r==[])= !b
theorem Tx.mk {n:Nat} {r:List UInt8} (h:r.length<=n) (h0:0<r.length):Tx true n r:=⟨h,by cases r<;>simp at *⟩
theorem Ahc (m:B4):W (Sy m) (Tx (lM m) 200000):=by
 unfold Sy;rw [wK];refine W.lt (fun b hb=>?_);refine W.if (fun h=>⟨_,rfl,by rw [<-hb];simp at h;subst h;exact⟨by simp,rfl⟩⟩) (fun h=>?_)
 obtain⟨h1,h2⟩:=Ady (m:=m) (by subst hb;simpa using h);rw [<-hb,show b=true by simpa using h];have l1:YH.length=6:=rfl;have l2:Vr.length=7:=rfl;have l3:kG.length=4:=rfl;have l4:dG.length=5:=rfl;have l5:Vs.length=7:=rfl;have l6:RZ.length=8:=rfl;have l7:YO.length=6:=rfl;have l8:Lg.length=6:=rfl;have l9:PT.length=9:=rfl;have l10:qm.length=1:=rfl;have l11:qn.length=3:=rfl;have l12:kI.length=4:=rfl;have l13:WE.length=1:=rfl;refine W.if (fun _=>⟨_,rfl,Tx.mk (by decide) (by decide)⟩) (fun _=>?_)
 refine W.if (fun _=>W.bd (zW _) (fun r hr=>QZ 1000 (by omega) (fun s hs=>⟨_,rfl,Tx.mk (by omega) (by omega)⟩))) (fun _=>?_)
 refine W.if (fun _=>W.bd (zW _) (fun r hr=>QZ 1000 (by omega) (fun s hs=>⟨_,rfl,Tx.mk (by omega) (by omega)⟩))) (fun _=>?_)
 refine W.if (fun k=>QZ 1000 (by grind) (fun s hs=>⟨_,rfl,Tx.mk (by grind) (by omega)⟩)) (fun _=>?_)
 refine W.if (fun k=>QZ 1000 (by grind) (fun s hs=>⟨_,rfl,Tx.mk (by grind) (by omega)⟩)) (fun _=>?_)
 refine W.if (fun _=>W.bd (Ae3 _) (fun r hr=>QZ 1000 (by omega) (fun s hs=>⟨_,rfl,Tx.mk (by omega) (by omega)⟩))) (fun _=>?_)
 refine W.if (fun _=>W.bd (Ae3 _) (fun r hr=>QZ 1000 (by omega) (fun s hs=>⟨_,rfl,Tx.mk (by omega) (by omega)⟩))) (fun _=>?_)
 refine W.if (fun _=>W.bd (Ae4 _) (fun r hr=>QZ 100000 (by omega) (fun s hs=>⟨_,rfl,Tx.mk (by omega) (by omega)⟩))) (fun _=>?_)
 refine W.if (fun _=>W.bd (Ae4 _) (fun r hr=>QZ 100000 (by omega) (fun s hs=>⟨_,rfl,Tx.mk (by omega) (by omega)⟩))) (fun _=>?_)
 refine W.if (fun _=>⟨_,rfl,Tx.mk (by decide) (by decide)⟩) (fun _=>?_)
 refine W.if (fun _=>W.bd (Ae6 _) (fun r hr=>QZ 1000000 (by omega) (fun s hs=>QZ 1000000 (by omega) (fun s hs=>⟨_,rfl,Tx.mk (by omega) (by omega)⟩)))) (fun _=>?_)
 have N: ∀ (p:List UInt8),p.length<=10->m.Kind=12\/m.Kind=13->W ((Dg m.N).bind fun r32=>(cat p r32).bind fun s33=>(cat s33 WE).bind fun s34=>(Dg m.M).bind fun r35=>(cat s34 r35).bind fun s36=>some s36) (Tx true 200000):=fun p hp hk=>by have q:=h2 hk;refine W.bd (zV (by omega) (by omega)) (fun r hr=>QZ 1000 (by omega) (fun s hs=>QZ 1000 (by omega) (fun s hs=>?_)));exact W.bd (zV (by omega) (by omega)) (fun r hr=>QZ 1000 (by omega) (fun s hs=>⟨_,rfl,Tx.mk (by omega) (by omega)⟩))
 refine W.if (by grind) (fun _=>?_)
 refine W.if (by grind) (fun _=>⟨_,rfl,Tx.mk (by decide) (by decide)⟩)
end Go.PL
