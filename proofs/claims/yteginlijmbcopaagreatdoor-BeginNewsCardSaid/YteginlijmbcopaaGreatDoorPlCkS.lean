/- Plain laws of states: texts of lists, of prices and targets. -/
import Derived.Test.YteginlijmbcopaaGreatDoorPlCkR
namespace Go.PL
open Go
set_option maxRecDepth 100000
set_option linter.all false
set_option maxHeartbeats 1000000
def PX (l:List AZ):Bool:=decide (1<=l.length/\l.length<=6)&&l.all Sk
theorem Aay {α:Type} [Inhabited α] {p:α->Bool} {l:List α} (h: ∀ j:Int,0<=j->j<l.length->p (l.getD j.toNat default)=true):l.all p=true:=by rw [List.all_eq_true];intro x hx;obtain⟨i,hi,rfl⟩:=List.mem_iff_getElem.1 hx;grind [Int.toNat_natCast]
theorem Aaz {l:List (List UInt8)} {sep:List UInt8} (h1:0<l.length) (h: ∀ y∈l,0<y.length):0<(Lib.join l sep).length :=by cases l<;>grind [Lib.join_cons]
theorem nz {r:List UInt8} (h:0<r.length):(r==[])=false:=by grind
theorem Adi (l:List AZ):W (Fc l) (fun r=>(r==[])= !PX l):=by
 unfold Fc PX jn;refine W.lt (fun b hb=>?_);refine W.if (fun h=>⟨_,rfl,?_⟩) (fun h=>?_)
 ·grind
 subst hb;simp only [bz]at h;rw [decide_eq_true (p:=1<=l.length/\l.length<=6) (by omega),Bool.true_and];refine W.it (fun(v:Int×List (List UInt8))=>0<=v.1/\v.1<=l.length/\v.2.length=v.1/\(∀ y∈v.2,0<y.length/\y.length<=200000)/\ ∀ j:Int,0<=j->j<v.1->Sk (l.getD j.toNat default)=true) (fun v=>((l.length:Int) - v.1).toNat)
  (by grind) (by grind) (fun v hv=>?_)
 obtain⟨i,t⟩:=v;obtain⟨h1,h2,h3,h4,h5⟩:=hv;dsimp only at h1 h2 h3 h4 h5 ⊢;unfold MN;have w:=A7 (x:=i+1) (by omega) (by omega);refine W.if (fun hi=>?_) (fun hi=>W.ex ?_)
 ·have hi:=of_decide_eq_true hi;refine W.bd (W.idx (by omega)) (fun e he=>?_);rw [uP];refine W.lt (fun b hb=>?_);refine W.if (fun k=>W.ex ⟨_,rfl,?_⟩) (fun k=>?_)
  ·grind
  have hm:Sk e=true:=by grind
  refine W.bd (AjT e) (fun r hr=>?_);rw [hm]at hr;have hr1:=hr.1;have hr2:0<r.length:=by have:=hr.2;grind
  refine W.bd (W.app (by simp;omega) (by unfold maxLen;simp;omega)) (fun l' hl'=>?_);subst hl';refine(by grind [W.nx])
  all_goals grind
 ·have hi:=of_decide_eq_false hi;obtain rfl:i=l.length:=by omega
  rw [Aay (p:=Sk) h5];have jl:=bb Dq 200000 (fun y hy=>(h4 y hy).2);have jl2:t.length*(200000+Dq.length)<=6*200002:=Nat.mul_le_mul (by omega) (by decide);have jp:=Aaz (sep:=Dq) (l:=t) (by omega) (fun y hy=>(h4 y hy).1);have jn:Gt t Dq=some (Lib.join t Dq):=by unfold Gt QQ;grind
  show W (I3 t) _;unfold I3;rw [jn];exact⟨_,rfl,nz jp⟩
theorem AaA (l:List AZ):W (Fd l) (fun r=>(r==[])= !PX l):=by
 unfold Fd PX jn;refine W.lt (fun b hb=>?_);refine W.if (fun h=>⟨_,rfl,?_⟩) (fun h=>?_)
 ·grind
 subst hb;simp only [bz]at h;rw [decide_eq_true (p:=1<=l.length/\l.length<=6) (by omega),Bool.true_and];refine W.it (fun(v:List UInt8×Int)=>0<=v.2/\v.2<=l.length/\(v.1.length:Int)<=200010*v.2/\(0<v.2->0<v.1.length)/\ ∀ j:Int,0<=j->j<v.2->Sk (l.getD j.toNat default)=true) (fun v=>((l.length:Int) - v.2).toNat)
  (by grind) (by grind) (fun v hv=>?_)
 obtain⟨t,i⟩:=v;obtain⟨h1,h2,h3,h4,h5⟩:=hv;dsimp only at h1 h2 h3 h4 h5 ⊢;unfold MP jn;have w:=A7 (x:=i+1) (by omega) (by omega);refine W.if (fun hi=>?_) (fun hi=>W.ex ?_)
 ·have hi:=of_decide_eq_true hi;refine W.bd (W.idx (by omega)) (fun e he=>?_);rw [Aeg];refine W.lt (fun b hb=>?_);refine W.if (fun k=>W.ex ⟨_,rfl,?_⟩) (fun k=>?_)
  ·grind
  have hm:Sk e=true:=by grind
  have J: ∀ s:List UInt8,(s.length:Int)<=200010*i+2->W (HU l i s) (LQ (fun(v:List UInt8×Int)=>0<=v.2/\v.2<=l.length/\(v.1.length:Int)<=200010*v.2/\(0<v.2->0<v.1.length)/\ ∀ j:Int,0<=j->j<v.2->Sk (l.getD j.toNat default)=true) (fun v=>((l.length:Int) - v.2).toNat) (t,i)
   (fun r=>W (Sum.elim (fun o0=>Oz o0) (fun o1=>some o1) r) (fun r=>(r==[])= !l.all Sk))):=fun s hs=>by
   unfold HU;refine W.bd (W.idx (by omega)) (fun e' he'=>?_);obtain rfl:e'=e:=by grind
   refine W.bd (Ah9 e') (fun r hr=>?_);rw [hm]at hr;have hr1:=hr.1;have hr2:0<r.length:=by have:=hr.2;grind
   refine HD 10000000 (by omega) (fun s' hs'=>?_);refine W.nx ⟨by dsimp only;omega,by dsimp only;omega,by dsimp only;omega,fun _=>by dsimp only;omega,fun j j1 j2=>?_⟩ (by dsimp only;omega);dsimp only at j2;by_cases q:j<i
   ·exact h5 j j1 q
   ·obtain rfl:j=i:=by omega
    rw [<-he.2.1];exact hm
  refine W.if (fun _=>?_) (by grind)
  have:Dq.length=2:=rfl;exact HD 10000000 (by omega) (by grind)
 ·have hi:=of_decide_eq_false hi;obtain rfl:i=l.length:=by omega
  rw [Aay (p:=Sk) h5];exact⟨_,rfl,nz (h4 (by omega))⟩
theorem ifQ (b x y:Bool):(if b then some x else some y)=some (if b then x else y):=by grind
def iN (s:Da):Bool:=(KR s).getD false
theorem AaB (s:Da):KR s=some (iN s):=by
 have: ∃ b,KR s=some b:=by unfold KR;simp only [Option.bind_some,PW,ifQ];grind
 grind [iN]
theorem Adj (s:Da):W (Fb s) (fun r=>(r==[])= !iN s):=by
 have e:=AaB s;unfold KR at e;unfold Fb;simp only [Option.bind_some,PW,Cw]at e ⊢;cases ho:s.Object
 ·simp only [ho,Bool.not_false,if_true]at e ⊢;injection e with e;rw [<-e];cases hp:s.acR
  ·exact⟨_,rfl,rfl⟩
  ·simp only [Bool.not_true,Bool.false_eq_true,if_false,if_true];refine W.if (fun h=>⟨_,rfl,?_⟩) (fun h=>⟨_,rfl,?_⟩)
   ·grind
   ·rw [Bool.not_eq_false']at h;rw [h];rfl
 ·simp only [ho,Bool.not_true,Bool.false_eq_true,if_false]at e ⊢;injection e with e;rw [<-e];have k:(if !Q5 s.Filter then true else if(if(s.Filter.AT != 0)=true then s.Filter.AT != 3 else false) then s.Filter.AT != 5 else false)= !(if Q5 s.Filter=true then if(if(s.Filter.AT==0)=true then true else s.Filter.AT==3) then true else s.Filter.AT==5 else false):=by grind
  rw [k];refine W.if (fun h=>⟨_,rfl,?_⟩) (fun h=>?_)
  ·rw [h];rfl
  ·rw [h];have l1:uz.length=1:=rfl;have l2:ij.length=2:=rfl;have l3:Ob.length=11:=rfl;have l4:uA.length=1:=rfl;refine W.bd (Ah2 _) (fun r hr=>HD 1000000 (by omega) (fun s hs=>HD 1000000 (by omega) (fun s hs=>?_)));refine W.if (fun _=>HD 1000000 (by omega) (fun s hs=>⟨_,rfl,nz (by omega)⟩)) (fun _=>HD 1000000 (by omega) (fun s hs=>⟨_,rfl,nz (by omega)⟩))
def N4 (p:BX):Bool:=sY p.ahB&&(p.ahB.X==0&&(decide (0<=p.adL)&&decide (p.adL<=99)))
theorem Adk (p:BX):Qs p=some (N4 p):=by grind [Qs,N4,UH]
theorem Adl (p:BX):W (De p) (fun r=>(r==[])= !N4 p):=by
 unfold De jn;rw [lA];have k:(if(if(if(!sY p.ahB)=true then true else p.ahB.X != 0)=true then true else decide (p.adL<0)) then true else decide (99<p.adL))= !N4 p:=by grind [N4]
 simp only [Option.bind_some,k];refine W.if (fun h=>⟨_,rfl,by rw [h];rfl⟩) (fun h=>?_)
 have hp:N4 p=true:=by grind
 rw [h];have l1:uC.length=1:=rfl;have l2:uD.length=1:=rfl;have J15: ∀ l,LB 10 l->W (D9 l) (fun r=>(r==[])=false):=fun l hl=>by have q:=Agy (sep:=Dq) (hl.le (m:=1000) (by omega)) (by decide);have h1:=hl.1;have:l.length*(600+Dq.length)<=10*602:=Nat.mul_le_mul (by omega) (by decide);unfold D9 Gt;refine W.bd (W.bd q (fun r hr=>⟨r,rfl,hr⟩)) (fun r hr=>HD 1000000 (by omega) (fun s hs=>HD 1000000 (by omega) (fun s hs=>⟨_,rfl,nz (by omega)⟩)))
 have hL:0<=p.adL/\p.adL<=99:=by grind
 have J7: ∀ l,LB 1 l->W (EN p l) (fun r=>(r==[])=false):=fun l hl=>by
  unfold EN jn;refine rT hl (by decide) (fun l hl=>?_);unfold IG jn;refine rT hl (by decide) (fun l hl=>?_);unfold Hh jn;have J13: ∀ l,LB 4 l->W (Ea l) (fun r=>(r==[])=false):=fun l hl=>by unfold Ea jn;refine W.if (fun _=>J15 _ ⟨by simp,by simp [ik]⟩) (fun _=>J15 _ (hl.le (by omega)))
  refine W.if (fun _=>?_) (fun _=>J13 _ (hl.le (by omega)))
  have:io.length=5:=rfl;exact W.bd (Ac5 (by omega) (by omega)) (fun r hr=>HD 1000 (by omega) (by grind [zI]))
 refine W.if (fun _=>?_) (fun _=>J7 _ LB.nil)
 rw [uN];refine W.lt (fun r hr=>?_);exact zI (k:=0) LB.nil (by grind [xi]) (fun l hl=>J7 l hl)
end Go.PL
