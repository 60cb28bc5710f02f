/- Plain laws of states: the program's texts answer. -/
import Derived.Test.YtenjiecnhncfiaaGreatDoorPlCkO
namespace Go.PL
open Go
set_option maxRecDepth 100000
set_option linter.all false
set_option maxHeartbeats 1000000
def Bt (r:List Int):Prop:=r.length<=31/\ ∀ y∈r,0<=y/\y<=30
theorem Wa (a:Int):W (Ft a) Bt:=by
 unfold Ft jn;refine W.if (fun _=>⟨_,rfl,by simp,by simp⟩) (fun _=>?_)
 refine W.it (fun(v:Int×List Int)=>0<=v.1/\v.1<=31/\(v.2.length:Int)<=v.1/\ ∀ y∈v.2,0<=y/\y<=30) (fun v=>((31:Int) - v.1).toNat) ⟨by simp,by simp,by simp,by simp⟩ (by dsimp only;omega) (fun v hv=>?_);obtain⟨i,l⟩:=v;obtain⟨h1,h2,h3,h4⟩:=hv;dsimp only at h1 h2 h3 h4 ⊢;unfold TB jn;have w:=AU (x:=i+1) (by omega) (by omega);refine W.if (fun hi=>?_) (fun _=>W.ex ⟨_,rfl,by omega,h4⟩)
 have hi:=of_decide_eq_true hi;refine W.bd (W.n_ h1) (fun _ _=>?_);refine W.if (fun _=>?_) (fun _=>W.nx ⟨by dsimp only;omega,by dsimp only;omega,by dsimp only;omega,h4⟩ (by dsimp only;omega))
 refine W.bd (W.app (by simp;omega) (by unfold maxLen;simp;omega)) (fun e he=>?_);subst he;refine W.nx ⟨by dsimp only;omega,by dsimp only;omega,by simp;omega,fun y hy=>?_⟩ (by dsimp only;omega);rw [List.mem_append,List.mem_singleton]at hy;rcases hy with hy | rfl
 ·exact h4 y hy
 ·omega
theorem AeL {l:List (List UInt8)} {sep:List UInt8} (h:LB 1000 l) (hs:sep.length<=10):W (QD l sep) (fun r=>r.length<=l.length*(600+sep.length)):=by have:=a7 sep 600 h.2;have h1:=h.1;have h2:l.length*(600+sep.length)<=1000*610:=Nat.mul_le_mul h1 (by omega);unfold QD;rw [if_pos ⟨by omega,by omega⟩];exact⟨_,rfl,this⟩
theorem Abm {a:Int} (h0: -9223372036854775808<=a) (h1:a<=9223372036854775807):W (Dd a) (fun r=>r.length<=21):=by unfold Dd gA;rw [if_pos ⟨h0,h1⟩];exact⟨_,rfl,SQ h0 h1⟩
theorem AhW:((List.range 64).all fun i=>vy 60 (Cs (i:Int)))=true:=by kernel_rfl
theorem Abn (a:Int):W (Cs a) (fun r=>r.length<=60):=by
 by_cases h:0<=a/\a<=63
 ·exact ql AhW h.1 (by omega)
 ·have:(if decide (a<1) then true else decide (63<a))=true:=by simp only [bz];omega
  unfold Cs;simp only [Option.bind_some];rw [if_pos this];exact⟨_,rfl,by simp⟩
theorem AhX:((List.range 32).all fun i=>vy 60 (EF (i:Int)))=true:=by kernel_rfl
theorem Agf (a:Int):W (EF a) (fun r=>r.length<=60):=by
 by_cases h:0<=a/\a<=31
 ·exact ql AhX h.1 (by omega)
 ·have:Is a=some false:=by unfold Is;simp;omega
  unfold EF;rw [this];exact⟨_,rfl,by simp⟩
theorem AhY:((List.range 31).all fun i=>vy 30 (NB (i:Int)))=true:=by kernel_rfl
theorem Agg (a:Int):W (GU a) (fun r=>r.length<=40000):=by
 unfold GU jn;have: ∃ b,FN a=some b:=⟨_,by unfold FN;rfl⟩;obtain⟨b,hb⟩:=this;rw [hb];refine W.lt (fun b hb=>?_);refine W.if (fun _=>⟨_,rfl,by simp⟩) (fun h=>?_)
 refine W.bd (Wa a) (fun r hr=>?_);refine xR (B:=ES r) r.length (k:=0) LB.nil (fun l=>?_) (fun i m l hi hm hl=>?_) (fun l hl=>?_) (by have:=hr.1;omega)
 ·unfold ES;rw [if_neg (by simp)]
 ·unfold ES;rw [if_pos (by simp only [bz];omega)];have:=hr.1;refine W.bd (W.idx (by omega)) (fun e he=>?_);have:=hr.2 e he.1;refine W.bd (ql AhY this.1 (by omega)) (fun x hx=>?_);exact xQ hl (by omega) (fun l hl=>oE hl)
 ·unfold N5;refine W.if (fun _=>⟨_,rfl,by decide⟩) (fun _=>?_)
  have h1:=hr.1;have h2:=hl.1;unfold Gd;refine W.bd (W.bd (AeL (hl.le (by omega)) (by decide)) (fun r hr=>⟨r,rfl,hr⟩)) (fun x hx=>⟨_,rfl,?_⟩);have:l.length*(600+K9.length)<=31*601:=Nat.mul_le_mul (by omega) (by decide);omega
theorem AeM {a:List UInt8} {b:Af} (ha:a.length<=10) (hb:ve b):W (CO a b) (fun r=>r.length<=600):=by
 obtain⟨h1,h2,h3,h4⟩:=hb;unfold CO;refine W.bd (wIx (b:=10) (by simp [A4.l];omega) (by kernel_rfl)) (fun e he=>?_);refine W.if (fun _=>⟨_,rfl,by simp⟩) (fun hk=>?_)
 refine Hr 100 (by omega) (fun s hs=>?_);refine W.bd (Abm (by omega) (by omega)) (fun r hr=>?_);exact Hr 100 (by omega) (fun s hs=>⟨_,rfl,by omega⟩)
theorem AhZ:((List.range 6).all fun i=>vy 60 (IJ (i:Int)))=true:=by kernel_rfl
theorem nX (i:Nat):(Eu.getD i []).length <=60:=by
 have:i=0\/i=1\/i=2\/i=3\/i=4\/5<=i:=by omega
 rcases this with rfl | rfl | rfl | rfl | rfl | h
 all_goals first | decide | skip
 have:Eu.getD i []=[]:=by rw [List.getD_eq_getElem?_getD,List.getElem?_eq_none (by show 5<=i;exact h)];rfl
 rw [this];simp
theorem Agh:BR [jB,Mg]=some jB:=by kernel_rfl
theorem Abo:BR [[],Mg]=some Mg:=by kernel_rfl
theorem yA:BR [P6,Hv]=some P6:=by kernel_rfl
theorem vf:BR [[],Hv]=some Hv:=by kernel_rfl
theorem Agi (f:Aj):W (IA f) (fun r=>r.length<=130000):=by
 unfold IA jn;rw [Ct];refine W.lt (fun b hb=>?_);refine W.if (fun _=>⟨_,rfl,by simp⟩) (fun h=>?_)
 have F:=sW (f:=f) (by subst hb;simpa using h);clear h hb b;have z:=F.z;have w:=F.w;have s:=F.s;have t:=F.t;have b:=F.b;refine W.bd (ql AhZ z.1 (by omega)) (fun e he=>?_);refine qm (k:=0) LB.nil (by omega) (fun l hl=>?_);clear he e;unfold Pv jn;refine W.bd (wIx (b:=600) (by simp [A3.l];omega) (by kernel_rfl)) (fun e he=>?_);refine qm hl he (fun l hl=>?_);clear he e;unfold Pu jn;refine W.bd (wIx (b:=600) (by simp [A3.l];omega) (by kernel_rfl)) (fun e he=>?_);refine qm hl he (fun l hl=>?_);clear he e;unfold Oh jn;refine W.bd (Wa _) (fun r hr=>?_);obtain⟨hr1,hr2⟩:=hr;refine xR (B:=EZ r) r.length hl (fun l=>by unfold EZ jn;rw [if_neg (by simp)]) (fun i m l hi hm hl=>?_) (fun l hl=>?_)
 ·unfold EZ jn;rw [if_pos (by simp only [bz];omega)];refine W.bd (W.idx (by omega)) (fun e he=>?_);have q:=hr2 e he.1;refine W.bd (W.n_ q.1) (fun _ _=>?_);refine W.bd (Abn _) (fun x hx=>?_);refine Hr 100 (by simp;omega) (fun x hx=>?_);exact qm hl (by simp at hx;omega) (fun l hl=>oE hl)
 replace hl:=hl.le (m:=34) (by omega);clear hr1 hr2 r;unfold Og jn;refine W.bd (Wa _) (fun r hr=>?_);obtain⟨hr1,hr2⟩:=hr;have h4:GG.length=4:=rfl;refine xR (B:=EY r) r.length hl (fun l=>by unfold EY jn;rw [if_neg (by simp)]) (fun i m l hi hm hl=>?_) (fun l hl=>?_)
 ·unfold EY jn;rw [if_pos (by simp only [bz];omega)];refine W.bd (W.idx (by omega)) (fun e he=>?_);have q:=hr2 e he.1;refine W.bd (W.n_ q.1) (fun _ _=>?_);refine W.bd (Abn _) (fun x hx=>?_);refine Hr 100 (by omega) (fun x hx=>?_);exact qm hl (by omega) (fun l hl=>oE hl)
 replace hl:=hl.le (m:=65) (by omega);clear hr1 hr2 r;unfold Of jn;refine W.bd (Wa _) (fun r hr=>?_);obtain⟨hr1,hr2⟩:=hr;refine xR (B:=EX r) r.length hl (fun l=>by unfold EX jn;rw [if_neg (by simp)]) (fun i m l hi hm hl=>?_) (fun l hl=>?_)
 ·unfold EX jn;rw [if_pos (by simp only [bz];omega)];refine W.bd (W.idx (by omega)) (fun e he=>?_);have q:=hr2 e he.1;have J: ∀ w:List UInt8,w.length<=60->W (HD (i:Int) l w) (Rnd i m):=fun w hw=>by unfold HD jn;refine Hr 100 (by simp;omega) (fun x hx=>?_);exact qm hl (by simp at hx;omega) (fun l hl=>oE hl)
  refine W.lt (fun b hb=>?_);refine W.if (fun _=>J _ (by simp)) (fun h=>?_)
  subst hb;simp only [bz]at h;exact W.bd (W.n_ (by omega)) (fun _ _=>W.bd (W.n_ (by show e.toNat<5;omega)) (fun _ _=>J _ (nX _)))
 replace hl:=hl.le (m:=96) (by omega);clear hr1 hr2 r;unfold Oe jn;refine W.bd (Wa _) (fun r hr=>?_);obtain⟨hr1,hr2⟩:=hr;refine xR (B:=EW r) r.length hl (fun l=>by unfold EW jn;rw [if_neg (by simp)]) (fun i m l hi hm hl=>?_) (fun l hl=>?_)
 ·unfold EW jn;rw [if_pos (by simp only [bz];omega)];refine W.bd (W.idx (by omega)) (fun e he=>?_);have q:=hr2 e he.1;have J: ∀ w:List UInt8,w.length<=60->W (HC (i:Int) l w) (Rnd i m):=fun w hw=>by unfold HC jn;refine Hr 100 (by omega) (fun x hx=>?_);exact qm hl (by omega) (fun l hl=>oE hl)
  refine W.lt (fun b hb=>?_);refine W.if (fun _=>J _ (by simp)) (fun h=>?_)
  subst hb;simp only [bz]at h;exact W.bd (W.n_ (by omega)) (fun _ _=>W.bd (W.n_ (by show e.toNat<5;omega)) (fun _ _=>J _ (nX _)))
 replace hl:=hl.le (m:=127) (by omega);clear hr1 hr2 r;have K: ∀ l,LB 128 l->W (IP f l) (fun r=>r.length<=130000):=fun l hl=>by
  unfold IP jn;refine W.bd (Wa _) (fun r hr=>?_);obtain⟨hr1,hr2⟩:=hr;refine xR (B:=FE r) r.length hl (fun l=>by unfold FE jn;rw [if_neg (by simp)]) (fun i m l hi hm hl=>?_) (fun l hl=>?_)
  ·unfold FE jn;rw [if_pos (by simp only [bz];omega)];refine W.bd (W.idx (by omega)) (fun e he=>?_);have q:=hr2 e he.1;have J: ∀ w:List UInt8,w.length<=60->W (DR (i:Int) l w) (Rnd i m):=fun w hw=>by unfold DR jn;have:Mh.length=5:=rfl;refine Hr 100 (by omega) (fun x hx=>?_);exact qm hl (by omega) (fun l hl=>oE hl)
   have J1: ∀ w v:List UInt8,BR [w,Mg]=some v->v.length<=20->W (IL (fun v=>DR (i:Int) l v) w) (Rnd i m):=fun w v hv hw=>by unfold IL;have:Pa.length=7:=rfl;exact W.re hv (Hr 100 (by omega) (fun x hx=>J _ (by omega)))
   have J2: ∀ w v:List UInt8,BR [w,Hv]=some v->v.length<=20->W (IM (fun v=>DR (i:Int) l v) w) (Rnd i m):=fun w v hv hw=>by unfold IM;have:O8.length=7:=rfl;exact W.re hv (Hr 100 (by omega) (fun x hx=>J _ (by omega)))
   refine W.lt (fun b hb=>?_);refine W.if (fun _=>J _ (by simp)) (fun h=>?_)
   refine W.bd (W.n_ (by omega)) (fun _ _=>?_)
   repeat' (first | exact J _ (by decide) | exact J1 _ _ Agh (by decide) | exact J1 _ _ Abo (by decide) | exact J2 _ _ yA (by decide) | exact J2 _ _ vf (by decide) | refine W.if (fun _=>?_) (fun _=>?_))
  replace hl:=hl.le (m:=159) (by omega);clear hr1 hr2 r;unfold Ob jn;refine W.bd (wIx (b:=600) (by simp [A3.l];omega) (by kernel_rfl)) (fun e he=>?_);refine qm hl he (fun l hl=>?_);unfold Oa jn;refine W.bd (AeM (by decide) F.p) (fun e he=>?_);refine qm hl he (fun l hl=>?_);unfold N9 jn;refine W.bd (AeM (by decide) F.q) (fun e he=>?_);refine qm hl he (fun l hl=>?_);unfold N8 jn;refine W.bd (AeM (by decide) F.v) (fun e he=>?_);refine qm hl he (fun l hl=>?_);unfold N7;refine W.if (fun _=>⟨_,rfl,by decide⟩) (fun _=>?_)
  have h1:=hl.1;refine W.bd (AeL (hl.le (by omega)) (by decide)) (fun r hr=>⟨r,rfl,?_⟩);have:l.length*(600+jD.length)<=163*601:=Nat.mul_le_mul (by omega) (by decide);omega
 unfold Od jn;refine W.if (fun _=>?_) (fun _=>K _ (hl.le (by omega)))
 have:HR.length=4:=rfl;refine Hr 100 (by omega) (fun x hx=>?_);unfold Oc;exact qm hl (by omega) (fun l hl=>K l hl)
end Go.PL
