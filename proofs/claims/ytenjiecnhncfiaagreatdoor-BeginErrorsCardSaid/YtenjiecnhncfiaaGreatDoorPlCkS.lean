/- Plain laws of states: texts of lists, of prices and targets. -/
import Derived.Test.YtenjiecnhncfiaaGreatDoorPlCkR
namespace Go.PL
open Go
set_option maxRecDepth 100000
set_option linter.all false
set_option maxHeartbeats 1000000
def ME (l:List A1):Bool:=decide (1<=l.length/\l.length<=6)&&l.all PG
theorem yJ {α:Type} [Inhabited α] {p:α->Bool} {l:List α} (h: ∀ j:Int,0<=j->j<l.length->p (l.getD j.toNat default)=true):l.all p=true:=by rw [List.all_eq_true];intro x hx;obtain⟨i,hi,rfl⟩:=List.mem_iff_getElem.1 hx;have:=h (i:Int) (by omega) (by omega);rwa [Int.toNat_natCast,YM hi]at this
theorem ta {α:Type} [Inhabited α] {p:α->Bool} {l:List α} {j:Int} (h0:0<=j) (h1:j<l.length) (h:p (l.getD j.toNat default)=false):l.all p=false:=by rw [Bool.eq_false_iff];intro q;have:=List.all_eq_true.1 q _ (O3 (l:=l) (i:=j.toNat) (by omega));rw [h]at this;cases this
theorem yK {l:List (List UInt8)} {sep:List UInt8} (h1:0<l.length) (h: ∀ y∈l,0<y.length):0<(Lib.join l sep).length :=by
 cases l with
 | nil=>simp at h1
 | cons a l=>
   have:=h a (by simp);rw [Lib.join_cons,List.length_append];omega
theorem nz {r:List UInt8} (h:0<r.length):(r==[])=false:=by cases r<;>simp at *
theorem Abz (l:List A1):W (E4 l) (fun r=>(r==[])= !ME l):=by
 unfold E4 ME jn;refine W.lt (fun b hb=>?_);refine W.if (fun h=>⟨_,rfl,?_⟩) (fun h=>?_)
 ·subst hb;simp only [bz]at h;rw [decide_eq_false (by omega)];rfl
 subst hb;simp only [bz]at h;rw [decide_eq_true (p:=1<=l.length/\l.length<=6) (by omega),Bool.true_and];refine W.it (fun(v:Int×List (List UInt8))=>0<=v.1/\v.1<=l.length/\v.2.length=v.1/\(∀ y∈v.2,0<y.length/\y.length<=200000)/\ ∀ j:Int,0<=j->j<v.1->PG (l.getD j.toNat default)=true) (fun v=>((l.length:Int) - v.1).toNat)
  ⟨by simp,by simp,by simp,by simp,fun j h1 h2=>by dsimp only at h2;omega⟩ (by dsimp only;omega) (fun v hv=>?_)
 obtain⟨i,t⟩:=v;obtain⟨h1,h2,h3,h4,h5⟩:=hv;dsimp only at h1 h2 h3 h4 h5 ⊢;unfold My;have w:=AU (x:=i+1) (by omega) (by omega);refine W.if (fun hi=>?_) (fun hi=>W.ex ?_)
 ·have hi:=of_decide_eq_true hi;refine W.bd (W.idx (by omega)) (fun e he=>?_);rw [sZ];refine W.lt (fun b hb=>?_);refine W.if (fun k=>W.ex ⟨_,rfl,?_⟩) (fun k=>?_)
  ·rw [ta (p:=PG) h1 hi (by rw [<-he.2.1, <-hb];simpa using k)];rfl
  have hm:PG e=true:=by rw [<-hb];simpa using k
  refine W.bd (Ah2 e) (fun r hr=>?_);rw [hm]at hr;have hr1:=hr.1;have hr2:0<r.length:=by
   have:=hr.2;cases r
   ·cases this
   ·simp
  refine W.bd (W.app (by simp;omega) (by unfold maxLen;simp;omega)) (fun l' hl'=>?_);subst hl';refine W.nx ⟨by dsimp only;omega,by dsimp only;omega,by simp;omega,fun y hy=>?_,fun j j1 j2=>?_⟩ (by dsimp only;omega)
  ·rw [List.mem_append,List.mem_singleton]at hy;rcases hy with hy | rfl
   ·exact h4 y hy
   ·exact⟨hr2,hr1⟩
  ·dsimp only at j2;by_cases q:j<i
   ·exact h5 j j1 q
   ·obtain rfl:j=i:=by omega
    rw [<-he.2.1];exact hm
 ·have hi:=of_decide_eq_false hi;obtain rfl:i=l.length:=by omega
  rw [yJ (p:=PG) h5];have jl:=a7 Dt 200000 (fun y hy=>(h4 y hy).2);have jl2:t.length*(200000+Dt.length)<=6*200002:=Nat.mul_le_mul (by omega) (by decide);have jp:=yK (sep:=Dt) (l:=t) (by omega) (fun y hy=>(h4 y hy).1);have jn:Gd t Dt=some (Lib.join t Dt):=by unfold Gd QD;rw [if_pos ⟨by omega,by omega⟩];rfl
  show W (IR t) _;unfold IR;rw [jn];exact⟨_,rfl,nz jp⟩
theorem yL (l:List A1):W (E6 l) (fun r=>(r==[])= !ME l):=by
 unfold E6 ME jn;refine W.lt (fun b hb=>?_);refine W.if (fun h=>⟨_,rfl,?_⟩) (fun h=>?_)
 ·subst hb;simp only [bz]at h;rw [decide_eq_false (by omega)];rfl
 subst hb;simp only [bz]at h;rw [decide_eq_true (p:=1<=l.length/\l.length<=6) (by omega),Bool.true_and];refine W.it (fun(v:List UInt8×Int)=>0<=v.2/\v.2<=l.length/\(v.1.length:Int)<=200010*v.2/\(0<v.2->0<v.1.length)/\ ∀ j:Int,0<=j->j<v.2->PG (l.getD j.toNat default)=true) (fun v=>((l.length:Int) - v.2).toNat)
  ⟨by simp,by simp,by simp,by simp,fun j h1 h2=>by dsimp only at h2;omega⟩ (by dsimp only;omega) (fun v hv=>?_)
 obtain⟨t,i⟩:=v;obtain⟨h1,h2,h3,h4,h5⟩:=hv;dsimp only at h1 h2 h3 h4 h5 ⊢;unfold MA jn;have w:=AU (x:=i+1) (by omega) (by omega);refine W.if (fun hi=>?_) (fun hi=>W.ex ?_)
 ·have hi:=of_decide_eq_true hi;refine W.bd (W.idx (by omega)) (fun e he=>?_);rw [Acx];refine W.lt (fun b hb=>?_);refine W.if (fun k=>W.ex ⟨_,rfl,?_⟩) (fun k=>?_)
  ·rw [ta (p:=PG) h1 hi (by rw [<-he.2.1, <-hb];simpa using k)];rfl
  have hm:PG e=true:=by rw [<-hb];simpa using k
  have J: ∀ s:List UInt8,(s.length:Int)<=200010*i+2->W (HK l i s) (LQ (fun(v:List UInt8×Int)=>0<=v.2/\v.2<=l.length/\(v.1.length:Int)<=200010*v.2/\(0<v.2->0<v.1.length)/\ ∀ j:Int,0<=j->j<v.2->PG (l.getD j.toNat default)=true) (fun v=>((l.length:Int) - v.2).toNat) (t,i)
   (fun r=>W (Sum.elim (fun o0=>Oi o0) (fun o1=>some o1) r) (fun r=>(r==[])= !l.all PG))):=fun s hs=>by
   unfold HK;refine W.bd (W.idx (by omega)) (fun e' he'=>?_);obtain rfl:e'=e:=by rw [he.2.1,he'.2.1]
   refine W.bd (Agp e') (fun r hr=>?_);rw [hm]at hr;have hr1:=hr.1;have hr2:0<r.length:=by
    have:=hr.2;cases r
    ·cases this
    ·simp
   refine Hr 10000000 (by omega) (fun s' hs'=>?_);refine W.nx ⟨by dsimp only;omega,by dsimp only;omega,by dsimp only;omega,fun _=>by dsimp only;omega,fun j j1 j2=>?_⟩ (by dsimp only;omega);dsimp only at j2;by_cases q:j<i
   ·exact h5 j j1 q
   ·obtain rfl:j=i:=by omega
    rw [<-he.2.1];exact hm
  refine W.if (fun _=>?_) (fun _=>J t (by omega))
  have:Dt.length=2:=rfl;exact Hr 10000000 (by omega) (fun s hs=>J s (by omega))
 ·have hi:=of_decide_eq_false hi;obtain rfl:i=l.length:=by omega
  rw [yJ (p:=PG) h5];exact⟨_,rfl,nz (h4 (by omega))⟩
theorem ifQ (b x y:Bool):(if b then some x else some y)=some (if b then x else y):=by cases b<;>rfl
def Xs (s:Dc):Bool:=(KH s).getD false
theorem yM (s:Dc):KH s=some (Xs s):=by
 have: ∃ b,KH s=some b:=by unfold KH;simp only [Option.bind_some,PF,ifQ];exact⟨_,rfl⟩
 obtain⟨b,h⟩:=this;unfold Xs;rw [h];rfl
theorem AbA (s:Dc):W (E3 s) (fun r=>(r==[])= !Xs s):=by
 have e:=yM s;unfold KH at e;unfold E3;simp only [Option.bind_some,PF,Ct]at e ⊢;cases ho:s.Object
 ·simp only [ho,Bool.not_false,if_true]at e ⊢;injection e with e;rw [<-e];cases hp:s.ab0
  ·exact⟨_,rfl,rfl⟩
  ·simp only [Bool.not_true,Bool.false_eq_true,if_false,if_true];refine W.if (fun h=>⟨_,rfl,?_⟩) (fun h=>⟨_,rfl,?_⟩)
   ·rw [Bool.not_eq_true']at h;rw [h];rfl
   ·rw [Bool.not_eq_false']at h;rw [h];rfl
 ·simp only [ho,Bool.not_true,Bool.false_eq_true,if_false]at e ⊢;injection e with e;rw [<-e];have k:(if !Lo s.Filter then true else if(if(s.Filter.q_ != 0)=true then s.Filter.q_ != 3 else false) then s.Filter.q_ != 5 else false)= !(if Lo s.Filter=true then if(if(s.Filter.q_==0)=true then true else s.Filter.q_==3) then true else s.Filter.q_==5 else false):=by simp only [bne];cases Lo s.Filter<;>cases (s.Filter.q_==0)<;>cases (s.Filter.q_==3)<;>cases (s.Filter.q_==5)<;>rfl
  rw [k];refine W.if (fun h=>⟨_,rfl,?_⟩) (fun h=>?_)
  ·rw [h];rfl
  ·rw [h];have l1:sL.length=1:=rfl;have l2:gH.length=2:=rfl;have l3:NY.length=11:=rfl;have l4:sM.length=1:=rfl;refine W.bd (Agi _) (fun r hr=>Hr 1000000 (by omega) (fun s hs=>Hr 1000000 (by omega) (fun s hs=>?_)));refine W.if (fun _=>Hr 1000000 (by omega) (fun s hs=>⟨_,rfl,nz (by omega)⟩)) (fun _=>Hr 1000000 (by omega) (fun s hs=>⟨_,rfl,nz (by omega)⟩))
def IV (p:BV):Bool:=oF p.aaH&&(p.aaH.X==0&&(decide (0<=p.acL)&&decide (p.acL<=99)))
theorem AbB (p:BV):Qe p=some (IV p):=by unfold Qe IV;simp only [Option.bind_some,Uq,Vp,Bool.and_assoc]
theorem AbC (p:BV):W (Df p) (fun r=>(r==[])= !IV p):=by
 unfold Df jn;rw [kB];have k:(if(if(if(!oF p.aaH)=true then true else p.aaH.X != 0)=true then true else decide (p.acL<0)) then true else decide (99<p.acL))= !IV p:=by unfold IV;simp only [SR,ltN,bne,Bool.not_and,Bool.or_assoc]
 simp only [Option.bind_some,k];refine W.if (fun h=>⟨_,rfl,by rw [h];rfl⟩) (fun h=>?_)
 have hp:IV p=true:=by simpa using h
 rw [h];have l1:sO.length=1:=rfl;have l2:sP.length=1:=rfl;have J15: ∀ l,LB 10 l->W (D6 l) (fun r=>(r==[])=false):=fun l hl=>by have q:=AeL (sep:=Dt) (hl.le (m:=1000) (by omega)) (by decide);have h1:=hl.1;have:l.length*(600+Dt.length)<=10*602:=Nat.mul_le_mul (by omega) (by decide);unfold D6 Gd;refine W.bd (W.bd q (fun r hr=>⟨r,rfl,hr⟩)) (fun r hr=>Hr 1000000 (by omega) (fun s hs=>Hr 1000000 (by omega) (fun s hs=>⟨_,rfl,nz (by omega)⟩)))
 have hL:0<=p.acL/\p.acL<=99:=by unfold IV at hp;simp only [Bool.and_eq_true,decide_eq_true_eq]at hp;exact⟨hp.2.2.1,hp.2.2.2⟩
 have J7: ∀ l,LB 1 l->W (EG p l) (fun r=>(r==[])=false):=fun l hl=>by
  unfold EG jn;refine qm hl (by decide) (fun l hl=>?_);unfold Iy jn;refine qm hl (by decide) (fun l hl=>?_);unfold G7 jn;have J13: ∀ l,LB 4 l->W (D7 l) (fun r=>(r==[])=false):=fun l hl=>by unfold D7 jn;refine W.if (fun _=>J15 _ ⟨by simp,by simp [gI]⟩) (fun _=>J15 _ (hl.le (by omega)))
  refine W.if (fun _=>?_) (fun _=>J13 _ (hl.le (by omega)))
  have:gJ.length=5:=rfl;exact W.bd (Abm (by omega) (by omega)) (fun r hr=>Hr 1000 (by omega) (fun s hs=>xQ hl (by omega) (fun l hl=>J13 l hl)))
 refine W.if (fun _=>?_) (fun _=>J7 _ LB.nil)
 rw [sY];refine W.lt (fun r hr=>?_);exact xQ (k:=0) LB.nil (by subst hr;have:=vk p.aaH;omega) (fun l hl=>J7 l hl)
end Go.PL
