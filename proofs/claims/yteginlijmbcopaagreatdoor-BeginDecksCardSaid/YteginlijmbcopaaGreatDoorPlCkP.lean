/- Plain laws of states: the program's texts answer. -/
import Derived.Test.YteginlijmbcopaaGreatDoorPlCkO
namespace Go.PL
open Go
set_option maxRecDepth 100000
set_option linter.all false
set_option maxHeartbeats 1000000
def Bt (r:List Int):Prop:=r.length<=31/\ ∀ y∈r,0<=y/\y<=30
theorem Uv (a:Int):W (FK a) Bt:=by
 unfold FK jn;refine W.if (fun _=>⟨_,rfl,by simp,by simp⟩) (fun _=>?_)
 refine W.it (fun(v:Int×List Int)=>0<=v.1/\v.1<=31/\(v.2.length:Int)<=v.1/\ ∀ y∈v.2,0<=y/\y<=30) (fun v=>((31:Int) - v.1).toNat) (by grind) (by grind) (fun v hv=>?_);obtain⟨i,l⟩:=v;obtain⟨h1,h2,h3,h4⟩:=hv;dsimp only at h1 h2 h3 h4 ⊢;unfold R8 jn;have w:=Ao (x:=i+1) (by omega) (by omega);refine W.if (fun hi=>?_) (fun _=>W.ex ⟨_,rfl,by omega,h4⟩)
 have hi:=of_decide_eq_true hi;refine W.bd (W.n_ h1) (fun _ _=>?_);refine W.if (fun _=>?_) (fun _=>W.nx ⟨by dsimp only;omega,by dsimp only;omega,by dsimp only;omega,h4⟩ (by dsimp only;omega))
 refine W.bd (W.app (by simp;omega) (by unfold maxLen;simp;omega)) (fun e he=>?_);subst he;refine W.nx ⟨by dsimp only;omega,by dsimp only;omega,by simp;omega,fun y hy=>?_⟩ (by dsimp only;omega);grind
theorem Ads {l:List (List UInt8)} {sep:List UInt8} (h:LB 1000 l) (hs:sep.length<=10):W (PR l sep) (fun r=>r.length<=l.length*(600+sep.length)):=by have:=YE sep 600 h.2;have h1:=h.1;have h2:l.length*(600+sep.length)<=1000*610:=Nat.mul_le_mul h1 (by omega);unfold PR;rw [if_pos ⟨by omega,by omega⟩];exact⟨_,rfl,this⟩
theorem zV {a:Int} (h0: -9223372036854775808<=a) (h1:a<=9223372036854775807):W (Dg a) (fun r=>r.length<=21):=by unfold Dg dC;rw [if_pos ⟨h0,h1⟩];exact⟨_,rfl,WC h0 h1⟩
theorem Ag4:((List.range 64).all fun i=>okX 60 (CC (i:Int)))=true:=by kernel_rfl
theorem zW (a:Int):W (CC a) (fun r=>r.length<=60):=by
 by_cases h:0<=a/\a<=63
 ·exact zd Ag4 h.1 (by omega)
 ·have:(if decide (a<1) then true else decide (63<a))=true:=by grind
  unfold CC;simp only [Option.bind_some];rw [if_pos this];exact⟨_,rfl,by simp⟩
theorem Ag5:((List.range 32).all fun i=>okX 60 (ES (i:Int)))=true:=by kernel_rfl
theorem Ae3 (a:Int):W (ES a) (fun r=>r.length<=60):=by
 by_cases h:0<=a/\a<=31
 ·exact zd Ag5 h.1 (by omega)
 ·have:IG a=some false:=by unfold IG;simp;omega
  unfold ES;rw [this];exact⟨_,rfl,by simp⟩
theorem Ag6:((List.range 31).all fun i=>okX 30 (Nh (i:Int)))=true:=by kernel_rfl
theorem Ae4 (a:Int):W (G9 a) (fun r=>r.length<=40000):=by
 unfold G9 jn;have: ∃ b,F8 a=some b:=⟨_,by unfold F8;rfl⟩;obtain⟨b,hb⟩:=this;rw [hb];refine W.lt (fun b hb=>?_);refine W.if (fun _=>⟨_,rfl,by simp⟩) (fun h=>?_)
 refine W.bd (Uv a) (fun r hr=>?_);refine wLp (B:=Fi r) r.length (k:=0) LB.nil (fun l=>?_) (fun i m l hi hm hl=>?_) (fun l hl=>?_) (by have:=hr.1;omega)
 ·simp_all [Fi]
 ·unfold Fi;rw [if_pos (by simp only [bz];omega)];have:=hr.1;refine W.bd (W.idx (by omega)) (fun e he=>?_);have:=hr.2 e he.1;refine W.bd (zd Ag6 this.1 (by omega)) (fun x hx=>?_);grind [wAp,wRn]
 ·unfold NH;refine W.if (fun _=>⟨_,rfl,by decide⟩) (fun _=>?_)
  have h1:=hr.1;have h2:=hl.1;unfold GG;refine W.bd (W.bd (Ads (hl.le (by omega)) (by decide)) (fun r hr=>⟨r,rfl,hr⟩)) (fun x hx=>⟨_,rfl,?_⟩);have:l.length*(600+WD.length)<=31*601:=Nat.mul_le_mul (by omega) (by decide);omega
theorem Adt {a:List UInt8} {b:Aj} (ha:a.length<=10) (hb:wC b):W (CX a b) (fun r=>r.length<=600):=by
 obtain⟨h1,h2,h3,h4⟩:=hb;unfold CX;refine W.bd (wIx (b:=10) (by simp [A4.l];omega) (by kernel_rfl)) (fun e he=>?_);refine W.if (fun _=>⟨_,rfl,by simp⟩) (fun hk=>?_)
 refine QZ 100 (by omega) (fun s hs=>?_);refine W.bd (zV (by omega) (by omega)) (fun r hr=>?_);exact QZ 100 (by omega) (fun s hs=>⟨_,rfl,by omega⟩)
theorem Ag7:((List.range 6).all fun i=>okX 60 (I2 (i:Int)))=true:=by kernel_rfl
theorem lK (i:Nat):(EJ.getD i []).length <=60:=by
 have:i=0\/i=1\/i=2\/i=3\/i=4\/5<=i:=by omega
 rcases this with rfl | rfl | rfl | rfl | rfl | h
 all_goals first | decide | skip
 have:EJ.getD i []=[]:=by rw [List.getD_eq_getElem?_getD,List.getElem?_eq_none (by show 5<=i;exact h)];rfl
 grind
theorem Ae5:BY [fS,Mn]=some fS:=by kernel_rfl
theorem zX:BY [[],Mn]=some Mn:=by kernel_rfl
theorem wD:BY [Po,HL]=some Po:=by kernel_rfl
theorem ta:BY [[],HL]=some HL:=by kernel_rfl
theorem Ae6 (f:Aq):W (IL f) (fun r=>r.length<=130000):=by
 unfold IL jn;rw [FO];refine W.lt (fun b hb=>?_);refine W.if (fun _=>⟨_,rfl,by simp⟩) (fun h=>?_)
 have F:=zU (f:=f) (by subst hb;simpa using h);clear h hb b;have z:=F.z;have w:=F.w;have s:=F.s;have t:=F.t;have b:=F.b;refine W.bd (zd Ag7 z.1 (by omega)) (fun e he=>?_);refine nZ (k:=0) LB.nil (by omega) (fun l hl=>?_);clear he e;unfold OR jn;refine W.bd (wIx (b:=600) (by simp [A3.l];omega) (by kernel_rfl)) (fun e he=>?_);refine nZ hl he (fun l hl=>?_);clear he e;unfold OQ jn;refine W.bd (wIx (b:=600) (by simp [A3.l];omega) (by kernel_rfl)) (fun e he=>?_);refine nZ hl he (fun l hl=>?_);clear he e;unfold NS jn;refine W.bd (Uv _) (fun r hr=>?_);obtain⟨hr1,hr2⟩:=hr;refine wLp (B:=Fm r) r.length hl (by simp_all [Fm]) (fun i m l hi hm hl=>?_) (fun l hl=>?_)
 ·unfold Fm jn;rw [if_pos (by simp only [bz];omega)];refine W.bd (W.idx (by omega)) (fun e he=>?_);have q:=hr2 e he.1;refine W.bd (W.n_ q.1) (fun _ _=>?_);refine W.bd (zW _) (fun x hx=>?_);refine QZ 100 (by simp;omega) (fun x hx=>?_);exact nZ hl (by grind) (fun l hl=>wRn hl)
 replace hl:=hl.le (m:=34) (by omega);clear hr1 hr2 r;unfold NR jn;refine W.bd (Uv _) (fun r hr=>?_);obtain⟨hr1,hr2⟩:=hr;have h4:YQ.length=4:=rfl;refine wLp (B:=Fl r) r.length hl (by simp_all [Fl]) (fun i m l hi hm hl=>?_) (fun l hl=>?_)
 ·unfold Fl jn;rw [if_pos (by simp only [bz];omega)];refine W.bd (W.idx (by omega)) (fun e he=>?_);have q:=hr2 e he.1;refine W.bd (W.n_ q.1) (fun _ _=>?_);refine W.bd (zW _) (fun x hx=>?_);refine QZ 100 (by omega) (fun x hx=>?_);exact nZ hl (by omega) (fun l hl=>wRn hl)
 replace hl:=hl.le (m:=65) (by omega);clear hr1 hr2 r;unfold NQ jn;refine W.bd (Uv _) (fun r hr=>?_);obtain⟨hr1,hr2⟩:=hr;refine wLp (B:=Fk r) r.length hl (by simp_all [Fk]) (fun i m l hi hm hl=>?_) (fun l hl=>?_)
 ·unfold Fk jn;rw [if_pos (by simp only [bz];omega)];refine W.bd (W.idx (by omega)) (fun e he=>?_);have q:=hr2 e he.1;have J: ∀ w:List UInt8,w.length<=60->W (HT (i:Int) l w) (Rnd i m):=fun w hw=>by unfold HT jn;refine QZ 100 (by simp;omega) (fun x hx=>?_);exact nZ hl (by grind) (fun l hl=>wRn hl)
  refine W.lt (fun b hb=>?_);refine W.if (by grind) (fun h=>?_)
  subst hb;simp only [bz]at h;exact W.bd (W.n_ (by omega)) (fun _ _=>W.bd (W.n_ (by show e.toNat<5;omega)) (fun _ _=>J _ (lK _)))
 replace hl:=hl.le (m:=96) (by omega);clear hr1 hr2 r;unfold NP jn;refine W.bd (Uv _) (fun r hr=>?_);obtain⟨hr1,hr2⟩:=hr;refine wLp (B:=Fj r) r.length hl (by simp_all [Fj]) (fun i m l hi hm hl=>?_) (fun l hl=>?_)
 ·unfold Fj jn;rw [if_pos (by simp only [bz];omega)];refine W.bd (W.idx (by omega)) (fun e he=>?_);have q:=hr2 e he.1;have J: ∀ w:List UInt8,w.length<=60->W (HS (i:Int) l w) (Rnd i m):=fun w hw=>by unfold HS jn;refine QZ 100 (by omega) (fun x hx=>?_);exact nZ hl (by omega) (fun l hl=>wRn hl)
  refine W.lt (fun b hb=>?_);refine W.if (by grind) (fun h=>?_)
  subst hb;simp only [bz]at h;exact W.bd (W.n_ (by omega)) (fun _ _=>W.bd (W.n_ (by show e.toNat<5;omega)) (fun _ _=>J _ (lK _)))
 replace hl:=hl.le (m:=127) (by omega);clear hr1 hr2 r;have K: ∀ l,LB 128 l->W (I6 f l) (fun r=>r.length<=130000):=fun l hl=>by
  unfold I6 jn;refine W.bd (Uv _) (fun r hr=>?_);obtain⟨hr1,hr2⟩:=hr;refine wLp (B:=FW r) r.length hl (by simp_all [FW]) (fun i m l hi hm hl=>?_) (fun l hl=>?_)
  ·unfold FW jn;rw [if_pos (by simp only [bz];omega)];refine W.bd (W.idx (by omega)) (fun e he=>?_);have q:=hr2 e he.1;have J: ∀ w:List UInt8,w.length<=60->W (D1 (i:Int) l w) (Rnd i m):=fun w hw=>by unfold D1 jn;have:dK.length=5:=rfl;refine QZ 100 (by omega) (fun x hx=>?_);exact nZ hl (by omega) (fun l hl=>wRn hl)
   have J1: ∀ w v:List UInt8,BY [w,Mn]=some v->v.length<=20->W (I4 (fun v=>D1 (i:Int) l v) w) (Rnd i m):=fun w v hv hw=>by unfold I4;have:OD.length=7:=rfl;exact W.re hv (QZ 100 (by omega) (by grind))
   have J2: ∀ w v:List UInt8,BY [w,HL]=some v->v.length<=20->W (I5 (fun v=>D1 (i:Int) l v) w) (Rnd i m):=fun w v hv hw=>by unfold I5;have:OC.length=7:=rfl;exact W.re hv (QZ 100 (by omega) (by grind))
   refine W.lt (fun b hb=>?_);refine W.if (by grind) (fun h=>?_)
   refine W.bd (W.n_ (by omega)) (fun _ _=>?_)
   repeat' (first | exact J _ (by decide) | exact J1 _ _ Ae5 (by decide) | exact J1 _ _ zX (by decide) | exact J2 _ _ wD (by decide) | exact J2 _ _ ta (by decide) | refine W.if (fun _=>?_) (fun _=>?_))
  replace hl:=hl.le (m:=159) (by omega);clear hr1 hr2 r;unfold NM jn;refine W.bd (wIx (b:=600) (by simp [A3.l];omega) (by kernel_rfl)) (fun e he=>?_);refine nZ hl he (fun l hl=>?_);unfold NL jn;refine W.bd (Adt (by decide) F.p) (fun e he=>?_);refine nZ hl he (fun l hl=>?_);unfold NK jn;refine W.bd (Adt (by decide) F.q) (fun e he=>?_);refine nZ hl he (fun l hl=>?_);unfold NJ jn;refine W.bd (Adt (by decide) F.v) (fun e he=>?_);refine nZ hl he (fun l hl=>?_);unfold NI;refine W.if (fun _=>⟨_,rfl,by decide⟩) (fun _=>?_)
  have h1:=hl.1;refine W.bd (Ads (hl.le (by omega)) (by decide)) (fun r hr=>⟨r,rfl,?_⟩);have:l.length*(600+ql.length)<=163*601:=Nat.mul_le_mul (by omega) (by decide);omega
 unfold NO jn;refine W.if (fun _=>?_) (fun _=>K _ (hl.le (by omega)))
 have:PS.length=4:=rfl;refine QZ 100 (by omega) (fun x hx=>?_);unfold NN;exact nZ hl (by omega) (fun l hl=>K l hl)
end Go.PL
