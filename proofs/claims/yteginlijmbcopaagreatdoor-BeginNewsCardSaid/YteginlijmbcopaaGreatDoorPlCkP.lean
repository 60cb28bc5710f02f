/- Plain laws of states: the program's texts answer. -/
import Derived.Test.YteginlijmbcopaaGreatDoorPlCkO
namespace Go.PL
open Go
set_option maxRecDepth 100000
set_option linter.all false
set_option maxHeartbeats 1000000
def Bt (r:List Int):Prop:=r.length<=31/\ ∀ y∈r,0<=y/\y<=30
theorem Wq (a:Int):W (FB a) Bt:=by
 unfold FB jn;refine W.if (fun _=>⟨_,rfl,by simp,by simp⟩) (fun _=>?_)
 refine W.it (fun(v:Int×List Int)=>0<=v.1/\v.1<=31/\(v.2.length:Int)<=v.1/\ ∀ y∈v.2,0<=y/\y<=30) (fun v=>((31:Int) - v.1).toNat) (by grind) (by grind) (fun v hv=>?_);obtain⟨i,l⟩:=v;obtain⟨h1,h2,h3,h4⟩:=hv;dsimp only at h1 h2 h3 h4 ⊢;unfold TR jn;have w:=A7 (x:=i+1) (by omega) (by omega);refine W.if (fun hi=>?_) (fun _=>W.ex ⟨_,rfl,by omega,h4⟩)
 have hi:=of_decide_eq_true hi;refine W.bd (W.k_ h1) (fun _ _=>?_);refine W.if (fun _=>?_) (fun _=>W.nx ⟨by dsimp only;omega,by dsimp only;omega,by dsimp only;omega,h4⟩ (by dsimp only;omega))
 refine W.bd (W.app (by simp;omega) (by unfold maxLen;simp;omega)) (fun e he=>?_);subst he;refine W.nx ⟨by dsimp only;omega,by dsimp only;omega,by simp;omega,fun y hy=>?_⟩ (by dsimp only;omega);grind
theorem Agy {l:List (List UInt8)} {sep:List UInt8} (h:LB 1000 l) (hs:sep.length<=10):W (QQ l sep) (fun r=>r.length<=l.length*(600+sep.length)):=by have:=bb sep 600 h.2;have h1:=h.1;have h2:l.length*(600+sep.length)<=1000*610:=Nat.mul_le_mul h1 (by omega);unfold QQ;rw [if_pos ⟨by omega,by omega⟩];exact⟨_,rfl,this⟩
theorem Ac5 {a:Int} (h0: -9223372036854775808<=a) (h1:a<=9223372036854775807):W (Db a) (fun r=>r.length<=21):=by unfold Db hT;rw [if_pos ⟨h0,h1⟩];exact⟨_,rfl,S7 h0 h1⟩
theorem AjL:((List.range 64).all fun i=>xr 60 (Cv (i:Int)))=true:=by kernel_rfl
theorem Ac6 (a:Int):W (Cv a) (fun r=>r.length<=60):=by
 by_cases h:0<=a/\a<=63
 ·exact rS AjL h.1 (by omega)
 ·have:(if decide (a<1) then true else decide (63<a))=true:=by grind
  unfold Cv;simp only [Option.bind_some];rw [if_pos this];exact⟨_,rfl,by simp⟩
theorem AjM:((List.range 32).all fun i=>xr 60 (EL (i:Int)))=true:=by kernel_rfl
theorem AhZ (a:Int):W (EL a) (fun r=>r.length<=60):=by
 by_cases h:0<=a/\a<=31
 ·exact rS AjM h.1 (by omega)
 ·have:Iz a=some false:=by unfold Iz;simp;omega
  unfold EL;rw [this];exact⟨_,rfl,by simp⟩
theorem AjN:((List.range 31).all fun i=>xr 30 (NK (i:Int)))=true:=by kernel_rfl
theorem Ah0 (a:Int):W (G4 a) (fun r=>r.length<=40000):=by
 unfold G4 jn;have: ∃ b,FX a=some b:=⟨_,by unfold FX;rfl⟩;obtain⟨b,hb⟩:=this;rw [hb];refine W.lt (fun b hb=>?_);refine W.if (fun _=>⟨_,rfl,by simp⟩) (fun h=>?_)
 refine W.bd (Wq a) (fun r hr=>?_);refine zJ (B:=E6 r) r.length (k:=0) LB.nil (fun l=>?_) (fun i m l hi hm hl=>?_) (fun l hl=>?_) (by have:=hr.1;omega)
 ·simp_all [E6]
 ·unfold E6;rw [if_pos (by simp only [bz];omega)];have:=hr.1;refine W.bd (W.idx (by omega)) (fun e he=>?_);have:=hr.2 e he.1;refine W.bd (rS AjN this.1 (by omega)) (fun x hx=>?_);grind [zI,qg]
 ·unfold Oi;refine W.if (fun _=>⟨_,rfl,by decide⟩) (fun _=>?_)
  have h1:=hr.1;have h2:=hl.1;unfold Gt;refine W.bd (W.bd (Agy (hl.le (by omega)) (by decide)) (fun r hr=>⟨r,rfl,hr⟩)) (fun x hx=>⟨_,rfl,?_⟩);have:l.length*(600+Ln.length)<=31*601:=Nat.mul_le_mul (by omega) (by decide);omega
theorem Agz {a:List UInt8} {b:Ac} (ha:a.length<=10) (hb:xe b):W (CU a b) (fun r=>r.length<=600):=by
 obtain⟨h1,h2,h3,h4⟩:=hb;unfold CU;refine W.bd (wIx (b:=10) (by simp [A4.l];omega) (by kernel_rfl)) (fun e he=>?_);refine W.if (fun _=>⟨_,rfl,by simp⟩) (fun hk=>?_)
 refine HD 100 (by omega) (fun s hs=>?_);refine W.bd (Ac5 (by omega) (by omega)) (fun r hr=>?_);exact HD 100 (by omega) (fun s hs=>⟨_,rfl,by omega⟩)
theorem AjO:((List.range 6).all fun i=>xr 60 (IV (i:Int)))=true:=by kernel_rfl
theorem pK (i:Nat):(EA.getD i []).length <=60:=by
 have:i=0\/i=1\/i=2\/i=3\/i=4\/5<=i:=by omega
 rcases this with rfl | rfl | rfl | rfl | rfl | h
 all_goals first | decide | skip
 have:EA.getD i []=[]:=by rw [List.getD_eq_getElem?_getD,List.getElem?_eq_none (by show 5<=i;exact h)];rfl
 grind
theorem Ah1:BS [ko,Mv]=some ko:=by kernel_rfl
theorem Ac7:BS [[],Mv]=some Mv:=by kernel_rfl
theorem Aap:BS [Qk,HH]=some Qk:=by kernel_rfl
theorem xf:BS [[],HH]=some HH:=by kernel_rfl
theorem Ah2 (f:Ag):W (II f) (fun r=>r.length<=130000):=by
 unfold II jn;rw [Cw];refine W.lt (fun b hb=>?_);refine W.if (fun _=>⟨_,rfl,by simp⟩) (fun h=>?_)
 have F:=uL (f:=f) (by subst hb;simpa using h);clear h hb b;have z:=F.z;have w:=F.w;have s:=F.s;have t:=F.t;have b:=F.b;refine W.bd (rS AjO z.1 (by omega)) (fun e he=>?_);refine rT (k:=0) LB.nil (by omega) (fun l hl=>?_);clear he e;unfold PJ jn;refine W.bd (wIx (b:=600) (by simp [A3.l];omega) (by kernel_rfl)) (fun e he=>?_);refine rT hl he (fun l hl=>?_);clear he e;unfold PI jn;refine W.bd (wIx (b:=600) (by simp [A3.l];omega) (by kernel_rfl)) (fun e he=>?_);refine rT hl he (fun l hl=>?_);clear he e;unfold Oy jn;refine W.bd (Wq _) (fun r hr=>?_);obtain⟨hr1,hr2⟩:=hr;refine zJ (B:=Fa r) r.length hl (by simp_all [Fa]) (fun i m l hi hm hl=>?_) (fun l hl=>?_)
 ·unfold Fa jn;rw [if_pos (by simp only [bz];omega)];refine W.bd (W.idx (by omega)) (fun e he=>?_);have q:=hr2 e he.1;refine W.bd (W.k_ q.1) (fun _ _=>?_);refine W.bd (Ac6 _) (fun x hx=>?_);refine HD 100 (by simp;omega) (fun x hx=>?_);exact rT hl (by grind) (fun l hl=>qg hl)
 replace hl:=hl.le (m:=34) (by omega);clear hr1 hr2 r;unfold Ox jn;refine W.bd (Wq _) (fun r hr=>?_);obtain⟨hr1,hr2⟩:=hr;have h4:GI.length=4:=rfl;refine zJ (B:=E9 r) r.length hl (by simp_all [E9]) (fun i m l hi hm hl=>?_) (fun l hl=>?_)
 ·unfold E9 jn;rw [if_pos (by simp only [bz];omega)];refine W.bd (W.idx (by omega)) (fun e he=>?_);have q:=hr2 e he.1;refine W.bd (W.k_ q.1) (fun _ _=>?_);refine W.bd (Ac6 _) (fun x hx=>?_);refine HD 100 (by omega) (fun x hx=>?_);exact rT hl (by omega) (fun l hl=>qg hl)
 replace hl:=hl.le (m:=65) (by omega);clear hr1 hr2 r;unfold Ow jn;refine W.bd (Wq _) (fun r hr=>?_);obtain⟨hr1,hr2⟩:=hr;refine zJ (B:=E8 r) r.length hl (by simp_all [E8]) (fun i m l hi hm hl=>?_) (fun l hl=>?_)
 ·unfold E8 jn;rw [if_pos (by simp only [bz];omega)];refine W.bd (W.idx (by omega)) (fun e he=>?_);have q:=hr2 e he.1;have J: ∀ w:List UInt8,w.length<=60->W (HO (i:Int) l w) (Rnd i m):=fun w hw=>by unfold HO jn;refine HD 100 (by simp;omega) (fun x hx=>?_);exact rT hl (by grind) (fun l hl=>qg hl)
  refine W.lt (fun b hb=>?_);refine W.if (by grind) (fun h=>?_)
  subst hb;simp only [bz]at h;exact W.bd (W.k_ (by omega)) (fun _ _=>W.bd (W.k_ (by show e.toNat<5;omega)) (fun _ _=>J _ (pK _)))
 replace hl:=hl.le (m:=96) (by omega);clear hr1 hr2 r;unfold Ov jn;refine W.bd (Wq _) (fun r hr=>?_);obtain⟨hr1,hr2⟩:=hr;refine zJ (B:=E7 r) r.length hl (by simp_all [E7]) (fun i m l hi hm hl=>?_) (fun l hl=>?_)
 ·unfold E7 jn;rw [if_pos (by simp only [bz];omega)];refine W.bd (W.idx (by omega)) (fun e he=>?_);have q:=hr2 e he.1;have J: ∀ w:List UInt8,w.length<=60->W (HN (i:Int) l w) (Rnd i m):=fun w hw=>by unfold HN jn;refine HD 100 (by omega) (fun x hx=>?_);exact rT hl (by omega) (fun l hl=>qg hl)
  refine W.lt (fun b hb=>?_);refine W.if (by grind) (fun h=>?_)
  subst hb;simp only [bz]at h;exact W.bd (W.k_ (by omega)) (fun _ _=>W.bd (W.k_ (by show e.toNat<5;omega)) (fun _ _=>J _ (pK _)))
 replace hl:=hl.le (m:=127) (by omega);clear hr1 hr2 r;have K: ∀ l,LB 128 l->W (I1 f l) (fun r=>r.length<=130000):=fun l hl=>by
  unfold I1 jn;refine W.bd (Wq _) (fun r hr=>?_);obtain⟨hr1,hr2⟩:=hr;refine zJ (B:=FL r) r.length hl (by simp_all [FL]) (fun i m l hi hm hl=>?_) (fun l hl=>?_)
  ·unfold FL jn;rw [if_pos (by simp only [bz];omega)];refine W.bd (W.idx (by omega)) (fun e he=>?_);have q:=hr2 e he.1;have J: ∀ w:List UInt8,w.length<=60->W (DT (i:Int) l w) (Rnd i m):=fun w hw=>by unfold DT jn;have:Mw.length=5:=rfl;refine HD 100 (by omega) (fun x hx=>?_);exact rT hl (by omega) (fun l hl=>qg hl)
   have J1: ∀ w v:List UInt8,BS [w,Mv]=some v->v.length<=20->W (IY (fun v=>DT (i:Int) l v) w) (Rnd i m):=fun w v hv hw=>by unfold IY;have:Pm.length=7:=rfl;exact W.re hv (HD 100 (by omega) (by grind))
   have J2: ∀ w v:List UInt8,BS [w,HH]=some v->v.length<=20->W (IZ (fun v=>DT (i:Int) l v) w) (Rnd i m):=fun w v hv hw=>by unfold IZ;have:Pk.length=7:=rfl;exact W.re hv (HD 100 (by omega) (by grind))
   refine W.lt (fun b hb=>?_);refine W.if (by grind) (fun h=>?_)
   refine W.bd (W.k_ (by omega)) (fun _ _=>?_)
   repeat' (first | exact J _ (by decide) | exact J1 _ _ Ah1 (by decide) | exact J1 _ _ Ac7 (by decide) | exact J2 _ _ Aap (by decide) | exact J2 _ _ xf (by decide) | refine W.if (fun _=>?_) (fun _=>?_))
  replace hl:=hl.le (m:=159) (by omega);clear hr1 hr2 r;unfold Or jn;refine W.bd (wIx (b:=600) (by simp [A3.l];omega) (by kernel_rfl)) (fun e he=>?_);refine rT hl he (fun l hl=>?_);unfold Oq jn;refine W.bd (Agz (by decide) F.p) (fun e he=>?_);refine rT hl he (fun l hl=>?_);unfold Oo jn;refine W.bd (Agz (by decide) F.q) (fun e he=>?_);refine rT hl he (fun l hl=>?_);unfold Om jn;refine W.bd (Agz (by decide) F.v) (fun e he=>?_);refine rT hl he (fun l hl=>?_);unfold Ol;refine W.if (fun _=>⟨_,rfl,by decide⟩) (fun _=>?_)
  have h1:=hl.1;refine W.bd (Agy (hl.le (by omega)) (by decide)) (fun r hr=>⟨r,rfl,?_⟩);have:l.length*(600+kq.length)<=163*601:=Nat.mul_le_mul (by omega) (by decide);omega
 unfold Ou jn;refine W.if (fun _=>?_) (fun _=>K _ (hl.le (by omega)))
 have:HY.length=4:=rfl;refine HD 100 (by omega) (fun x hx=>?_);unfold Ot;exact rT hl (by omega) (fun l hl=>K l hl)
end Go.PL
