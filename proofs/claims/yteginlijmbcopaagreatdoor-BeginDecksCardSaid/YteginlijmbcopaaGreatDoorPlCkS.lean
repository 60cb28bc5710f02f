/- Plain laws of states: texts of lists, of prices and targets. -/
import Derived.Test.YteginlijmbcopaaGreatDoorPlCkR
namespace Go.PL
open Go
set_option maxRecDepth 100000
set_option linter.all false
set_option maxHeartbeats 1000000
def lN (l:List B4):Bool:=decide (1<=l.length/\l.length<=6)&&l.all lM
theorem Adz {α:Type} [Inhabited α] {p:α->Bool} {l:List α} (h: ∀ j:Int,0<=j->j<l.length->p (l.getD j.toNat default)=true):l.all p=true:=by rw [List.all_eq_true];intro x hx;obtain⟨i,hi,rfl⟩:=List.mem_iff_getElem.1 hx;grind [Int.toNat_natCast]
theorem wL {l:List (List UInt8)} {sep:List UInt8} (h1:0<l.length) (h: ∀ y∈l,0<y.length):0<(Lib.join l sep).length :=by cases l<;>grind [Lib.join_cons]
theorem nz {r:List UInt8} (h:0<r.length):(r==[])=false:=by grind
theorem Aaf (l:List B4):W (Fp l) (fun r=>(r==[])= !lN l):=by
 unfold Fp lN jn;refine W.lt (fun b hb=>?_);refine W.if (fun h=>⟨_,rfl,?_⟩) (fun h=>?_)
 ·grind
 subst hb;simp only [bz]at h;rw [decide_eq_true (p:=1<=l.length/\l.length<=6) (by omega),Bool.true_and];refine W.it (fun(v:Int×List (List UInt8))=>0<=v.1/\v.1<=l.length/\v.2.length=v.1/\(∀ y∈v.2,0<y.length/\y.length<=200000)/\ ∀ j:Int,0<=j->j<v.1->lM (l.getD j.toNat default)=true) (fun v=>((l.length:Int) - v.1).toNat)
  (by grind) (by grind) (fun v hv=>?_)
 obtain⟨i,t⟩:=v;obtain⟨h1,h2,h3,h4,h5⟩:=hv;dsimp only at h1 h2 h3 h4 h5 ⊢;unfold MC;have w:=Ao (x:=i+1) (by omega) (by omega);refine W.if (fun hi=>?_) (fun hi=>W.ex ?_)
 ·have hi:=of_decide_eq_true hi;refine W.bd (W.idx (by omega)) (fun e he=>?_);rw [wK];refine W.lt (fun b hb=>?_);refine W.if (fun k=>W.ex ⟨_,rfl,?_⟩) (fun k=>?_)
  ·grind
  have hm:lM e=true:=by grind
  refine W.bd (Ahc e) (fun r hr=>?_);rw [hm]at hr;have hr1:=hr.1;have hr2:0<r.length:=by have:=hr.2;grind
  grind [W.bd,W.app,maxLen,W.nx]
 ·have hi:=of_decide_eq_false hi;obtain rfl:i=l.length:=by omega
  rw [Adz (p:=lM) h5];have jl:=YE Fe 200000 (fun y hy=>(h4 y hy).2);have jl2:t.length*(200000+Fe.length)<=6*200002:=Nat.mul_le_mul (by omega) (by decide);have jp:=wL (sep:=Fe) (l:=t) (by omega) (fun y hy=>(h4 y hy).1);have jn:GG t Fe=some (Lib.join t Fe):=by unfold GG PR;grind
  show W (I8 t) _;unfold I8;rw [jn];exact⟨_,rfl,nz jp⟩
theorem ifQ (b x y:Bool):(if b then some x else some y)=some (if b then x else y):=by grind
def lO (s:Ft):Bool:=if s.Object=false then(if s.acq then s.Filter==(⟨(0:Int),(0:Int),(0:Int),(0:Int),(0:Int),(0:Int),(0:Int),[],(0:Int),(0:Int),(⟨(0:Int),(0:Int)⟩:Aj),(⟨(0:Int),(0:Int)⟩:Aj),(⟨(0:Int),(0:Int)⟩:Aj)⟩:Aq)else false)else(if Zx s.Filter=true then if(if(s.Filter.B_==0)=true then true else s.Filter.B_==3) then true else s.Filter.B_==5 else false)
theorem Aag (s:Ft):W (Fo s) (fun r=>(r==[])= !lO s):=by
 unfold Fo;simp only [Option.bind_some,FO];cases ho:s.Object
 ·have e:lO s=_:=if_pos ho;simp only [Bool.not_false,if_true];rw [e];cases hp:s.acq
  ·exact⟨_,rfl,rfl⟩
  ·simp only [Bool.not_true,Bool.false_eq_true,if_false,if_true];refine W.if (fun h=>⟨_,rfl,?_⟩) (fun h=>⟨_,rfl,?_⟩)
   ·grind
   ·rw [Bool.not_eq_false']at h;rw [h];rfl
 ·have e:lO s=_:=if_neg (by simp [ho]);simp only [Bool.not_true,Bool.false_eq_true,if_false];rw [e];have k:(if !Zx s.Filter then true else if(if(s.Filter.B_ != 0)=true then s.Filter.B_ != 3 else false) then s.Filter.B_ != 5 else false)= !(if Zx s.Filter=true then if(if(s.Filter.B_==0)=true then true else s.Filter.B_==3) then true else s.Filter.B_==5 else false):=by grind
  rw [k];refine W.if (fun h=>⟨_,rfl,?_⟩) (fun h=>?_)
  ·rw [h];rfl
  ·rw [h];have l1:qo.length=1:=rfl;have l2:dM.length=2:=rfl;have l3:NA.length=11:=rfl;have l4:qp.length=1:=rfl;refine W.bd (Ae6 _) (fun r hr=>QZ 1000000 (by omega) (fun s hs=>QZ 1000000 (by omega) (fun s hs=>?_)));refine W.if (fun _=>QZ 1000000 (by omega) (fun s hs=>⟨_,rfl,nz (by omega)⟩)) (fun _=>QZ 1000000 (by omega) (fun s hs=>⟨_,rfl,nz (by omega)⟩))
def QY (p:CB):Bool:=oS p.ah_&&(p.ah_.X==0&&(decide (0<=p.adC)&&decide (p.adC<=99)))
theorem Aah (p:CB):W (Dj p) (fun r=>(r==[])= !QY p):=by
 unfold Dj jn;rw [ib];have k:(if(if(if(!oS p.ah_)=true then true else p.ah_.X != 0)=true then true else decide (p.adC<0)) then true else decide (99<p.adC))= !QY p:=by grind [QY]
 simp only [Option.bind_some,k];refine W.if (fun h=>⟨_,rfl,by rw [h];rfl⟩) (fun h=>?_)
 have hp:QY p=true:=by grind
 rw [h];have l1:qv.length=1:=rfl;have l2:qw.length=1:=rfl;have J15: ∀ l,LB 10 l->W (Ej l) (fun r=>(r==[])=false):=fun l hl=>by have q:=Ads (sep:=Fe) (hl.le (m:=1000) (by omega)) (by decide);have h1:=hl.1;have:l.length*(600+Fe.length)<=10*602:=Nat.mul_le_mul (by omega) (by decide);unfold Ej GG;refine W.bd (W.bd q (fun r hr=>⟨r,rfl,hr⟩)) (fun r hr=>QZ 1000000 (by omega) (fun s hs=>QZ 1000000 (by omega) (fun s hs=>⟨_,rfl,nz (by omega)⟩)))
 have hL:0<=p.adC/\p.adC<=99:=by grind
 have J7: ∀ l,LB 1 l->W (EU p l) (fun r=>(r==[])=false):=fun l hl=>by
  unfold EU jn;refine nZ hl (by decide) (fun l hl=>?_);unfold IK jn;refine nZ hl (by decide) (fun l hl=>?_);unfold Ho jn;have J13: ∀ l,LB 4 l->W (Ek l) (fun r=>(r==[])=false):=fun l hl=>by unfold Ek jn;refine W.if (fun _=>J15 _ ⟨by simp,by simp [dP]⟩) (fun _=>J15 _ (hl.le (by omega)))
  refine W.if (fun _=>?_) (fun _=>J13 _ (hl.le (by omega)))
  have:dQ.length=5:=rfl;exact W.bd (zV (by omega) (by omega)) (fun r hr=>QZ 1000 (by omega) (by grind [wAp]))
 refine W.if (fun _=>?_) (fun _=>J7 _ LB.nil)
 rw [qy];refine W.lt (fun r hr=>?_);exact wAp (k:=0) LB.nil (by grind [td]) (fun l hl=>J7 l hl)
end Go.PL
