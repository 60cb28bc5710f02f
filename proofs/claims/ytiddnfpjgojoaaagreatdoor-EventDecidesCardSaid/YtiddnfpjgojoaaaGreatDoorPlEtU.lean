/- The forces, applied one after another: an answer exists. -/
import Derived.Test.YtiddnfpjgojoaaaGreatDoorPlEtS
namespace Go.PL
open Go
set_option maxRecDepth 100000
set_option linter.all false
set_option maxHeartbeats 2000000
theorem W.lsub {α:Type} {l:List α} {a b:Int} (h:0≤a∧a≤b∧b≤l.length):W (lsub l a b) (fun r=>r=(l.drop a.toNat).take (b.toNat - a.toNat)):=⟨_,if_pos h,rfl⟩
theorem eH {a:BZ} {x:List UInt8} (h:Fs a) (hx:Fx x):W (FR a x) (fun r=>Fs r):=by
 unfold FR
 rw [Gd h.1.1 (by omega)]
 refine W.lt (fun l1 h1=>?_)
 refine W.bd (D8 hx) (fun r2 _=>?_)
 refine W.gb (fun _=>RN h) (fun r3 _=>?_)
 refine W.lt (fun b4 h4=>?_)
 refine W.lt (fun b5 h5=>?_)
 refine W.if (fun hb=>?_) (fun hb=>?_)
 ·rw [h1];exact W.rt ⟨h.1,trivial⟩
 ·simp only [h5,bz]at hb
  have hs: ∀ y∈l1,Fx y:=by rw [h1];exact h.1.2
  refine W.it (fun(v:Int)=>0≤v∧v≤l1.length) (fun v=>((l1.length:Int) - v).toNat) ⟨by omega,by omega⟩ (by omega) (fun v hv=>?_)
  unfold Fj
  have w:=Af (x:=v+1) (by omega) (by omega)
  refine W.gb (fun g=>by simp only [bz]at g;exact W.idx (by omega)) (fun e18 _=>?_)
  refine W.lt (fun b19 h19=>?_)
  refine W.if (fun hc=>?_) (fun hc=>?_)
  ·simp only [h19,bz]at hc
   exact W.nx ⟨by omega,by omega⟩ (by omega)
  ·refine W.ex ?_
   unfold Ex
   refine W.bd (W.lsub (by omega)) (fun l9 q9=>?_)
   have h9:l9.length≤4:=by rw [q9,List.length_take,List.length_drop];omega
   have m9: ∀ y∈l9,Fx y:=fun y hy=>hs y (by rw [q9]at hy;exact List.mem_of_mem_drop (List.mem_of_mem_take hy))
   rw [Gd (by omega) (by omega)]
   refine W.lt (fun l10 h10=>?_)
   rw [h10]
   refine W.bd (W.app (by simp;omega) (by unfold maxLen;simp;omega)) (fun l11 q11=>?_)
   have h11:l11.length=l9.length+1:=by rw [q11];simp
   refine W.bd (W.lsub (by omega)) (fun l12 q12=>?_)
   have h12:l12.length≤4:=by rw [q12,List.length_take,List.length_drop];omega
   have m12: ∀ y∈l12,Fx y:=fun y hy=>hs y (by rw [q12]at hy;exact List.mem_of_mem_drop (List.mem_of_mem_take hy))
   refine W.bd (W.app (by omega) (by unfold maxLen;omega)) (fun l13 q13=>?_)
   refine W.rt ⟨⟨?_,?_⟩,trivial⟩
   ·rw [q13,List.length_append];omega
   ·rw [q13,q11]
    intro y hy
    rcases List.mem_append.1 hy with q | q
    ·rcases List.mem_append.1 q with q | q
     ·exact m9 y q
     ·simp only [List.mem_singleton]at q;exact q▸hx
    ·exact m12 y q
theorem js {t:Ah} {m:BI} {you cnt:Int} (ht:A8 t) (hm:CC m):W (Kp t m you cnt) (fun r=>A8 r):=by
 unfold Kp Rz
 simp only [jn]
 obtain⟨t1,t2,t3,_⟩:=ht
 refine W.bd (Yz hm) (fun r1 _=>?_)
 refine W.if (fun _=>W.rt ⟨t1,t2,t3,trivial⟩) (fun _=>?_)
 refine W.if (fun _=>W.rt ⟨t1,t2,t3,trivial⟩) (fun _=>?_)
 refine W.if (fun _=>W.rt ⟨t1,⟨t2.1,trivial⟩,t3,trivial⟩) (fun _=>?_)
 refine W.if (fun _=>W.rt ⟨t1,⟨t2.1,trivial⟩,t3,trivial⟩) (fun _=>?_)
 refine W.if (fun _=>W.rt ⟨t1,⟨⟨by simp,fun y hy=>by simp only [List.mem_singleton]at hy;exact hy▸hm.1⟩,trivial⟩,t3,trivial⟩) (fun _=>?_)
 refine W.if (fun _=>W.bd (eH t2 hm.1) (fun r hr=>W.rt ⟨t1,hr,t3,trivial⟩)) (fun _=>?_)
 refine W.if (fun _=>W.rt ⟨t1,t2,t3,trivial⟩) (fun _=>?_)
 refine W.if (fun _=>W.rt ⟨t1,t2,t3,trivial⟩) (fun _=>?_)
 refine W.if (fun _=>W.rt ⟨t1,t2,t3,trivial⟩) (fun _=>?_)
 refine W.if (fun _=>W.rt ⟨t1,t2,t3,trivial⟩) (fun _=>?_)
 refine W.if (fun _=>W.rt ⟨t1,t2,G6,trivial⟩) (fun _=>?_)
 refine W.if (fun _=>W.bd Ci (fun _ _=>W.bd Ci (fun _ _=>W.rt ⟨t1,t2,t3,trivial⟩))) (fun _=>?_)
 refine W.if (fun _=>W.rt ⟨t1,t2,t3,trivial⟩) (fun _=>?_)
 refine W.if (fun _=>W.bd F0 (fun _ _=>W.bd F0 (fun _ _=>W.rt ⟨t1,t2,t3,trivial⟩))) (fun _=>?_)
 refine W.if (fun _=>W.rt ⟨t1,t2,t3,trivial⟩) (fun _=>W.rt ⟨t1,t2,t3,trivial⟩)
theorem sS {all:List Ah} {i:Int} (h: ∀ t∈all,A8 t):W (XO all i) (fun r=>A8 r):=by
 unfold XO
 refine W.lt (fun b1 h1=>?_)
 refine W.if (fun _=>W.rt jq) (fun hb=>?_)
 simp only [h1,bz]at hb
 exact W.bd (W.idx (by omega)) (fun e q=>W.rt (h e q.1))
theorem mP {s:Ao} {all:List Ah} {a2 a3:Int} {f:Ar} (hs:s.Objects.length≤2048) (h: ∀ t∈all,A8 t) (hf:AZ f):W (Nb s all a2 a3 f) (fun _=>True):=by
 unfold Nb
 refine W.it (fun(v:Int×List Int)=>0≤v.1∧v.1≤s.Objects.length∧v.2.length≤v.1) (fun v=>((s.Objects.length:Int) - v.1).toNat) ⟨by simp,by simp,by simp⟩ (by simp;omega) (fun v hv=>?_)
 obtain⟨k,out⟩:=v
 simp only at hv
 show W (GG s all a2 a3 f k out) _
 unfold GG Ed
 have w:=Af (x:=k+1) (by omega) (by omega)
 refine W.if (fun hi=>?_) (fun hi=>W.ex (W.rt trivial))
 simp only [bz]at hi
 refine W.bd (W.idx (by omega)) (fun e q=>?_)
 refine W.bd (sS h) (fun r13 q13=>?_)
 refine W.bd (RR q13 hf) (fun r14 _=>?_)
 refine W.if (fun _=>?_) (fun _=>W.nx ⟨by dsimp only;omega,by dsimp only;omega,by dsimp only;omega⟩ (by dsimp only;omega))
 refine W.re q.2.2 ?_
 refine W.bd (W.app (by simp;omega) (by unfold maxLen;simp;omega)) (fun l17 q17=>?_)
 exact W.nx ⟨by dsimp only;omega,by dsimp only;omega,by dsimp only;rw [q17];simp;omega⟩ (by dsimp only;omega)
structure WI (s:Ao) (L:List AU) (w:AD):Prop where
 lk:Bk s
 o:s.Objects.length≤2048
 n:L.length≤16448
 lf: ∀ f∈L,C4 f
 eS:w.S=s
 eL:w.L=L
 all:w.All.length=s.Objects.length
 lt: ∀ t∈w.All,A8 t
 bg:w.Begun.length=L.length
 st:w.Sets.length=L.length
 ls: ∀ x∈w.Sets,B5 8 IR x
 bl:w.Blank.length=s.Objects.length
section
variable {s:Ao} {L:List AU} {w:AD} {i j stage:Int}
theorem S9 (h:WI s L w) (hi:0≤i∧i<L.length):W (K7 w i) (fun _=>True):=by
 unfold K7
 have:=h.all
 rw [h.eL,h.eS]
 refine W.bd (W.idx hi) (fun e1 q1=>?_)
 refine W.bd (U1 h.lk) (fun r2 q2=>?_)
 refine W.re q1.2.2 ?_
 refine W.lt (fun b4 h4=>?_)
 refine W.if (fun _=>?_) (fun hb=>?_)
 ·exact W.re q1.2.2 (W.rt trivial)
 ·simp only [h4,bz]at hb
  exact W.bd (W.idx (by omega)) (fun _ _=>W.rt trivial)
theorem Hj (h:WI s L w) (hi:0≤i∧i<L.length):W (DY w i) (fun _=>True):=by
 unfold DY
 have:=h.bg
 have:=h.bl
 rw [h.eL,h.eS]
 refine W.bd (W.idx hi) (fun e1 q1=>?_)
 refine W.gb (fun _=>W.idx (by omega)) (fun e2 q2=>?_)
 refine W.lt (fun b3 h3=>?_)
 refine W.if (fun _=>W.rt trivial) (fun hb=>?_)
 refine W.re q1.2.2 ?_
 refine W.bd (U1 h.lk) (fun r6 q6=>?_)
 refine W.gb (fun g=>by simp only [bz]at g;exact W.idx (by omega)) (fun e7 q7=>?_)
 exact W.lt (fun b8 h8=>W.rt trivial)
theorem JK (h:WI s L w) (hi:0≤i∧i<L.length):W (D3 w i) (fun r=>B5 8 IR r):=by
 unfold D3
 simp only [jn]
 have k1:=h.bg
 have k2:=h.st
 have k3:=h.o
 have k4:=h.all
 refine W.bd (W.idx (by omega)) (fun e1 q1=>?_)
 refine W.if (fun _=>W.bd (W.idx (by omega)) (fun e q=>W.rt (h.ls e q.1))) (fun _=>?_)
 refine W.bd (Hj h hi) (fun r4 _=>?_)
 refine W.if (fun _=>W.rt G6) (fun _=>?_)
 refine W.bd (W.idx (by rw [h.eL];omega)) (fun e6 q6=>?_)
 have hf:=h.lf e6 (h.eL▸q6.1)
 unfold Na
 refine W.it (fun(v:Int×List Int)=>0≤v.1∧v.1≤s.Objects.length∧v.2.length≤v.1) (fun v=>((s.Objects.length:Int) - v.1).toNat) ⟨by simp,by simp,by simp⟩ (by simp;omega) (fun v hv=>?_)
 obtain⟨k,out⟩:=v
 simp only at hv
 show W (GV w i e6 k out) _
 unfold GV
 simp only [jn]
 unfold LX
 rw [h.eS]
 have w1:=Af (x:=k+1) (by omega) (by omega)
 refine W.if (fun hi=>?_) (fun hi=>W.ex (W.rt ⟨by omega,fun _ _=>trivial⟩))
 simp only [bz]at hi
 have hno: ∀ {K:List Int→Prop},W (some (.inl ((Ac (k+(1:Int))),out)):Option ((Int×List Int)⊕List Int)) (LQ (fun(v:Int×List Int)=>0≤v.1∧v.1≤s.Objects.length∧v.2.length≤v.1) (fun v=>((s.Objects.length:Int) - v.1).toNat) (k,out) K):=fun {K}=>W.nx ⟨by dsimp only;omega,by dsimp only;omega,by dsimp only;omega⟩ (by dsimp only;omega)
 refine W.bd (W.idx (by omega)) (fun e19 q19=>?_)
 refine W.if (fun _=>hno) (fun _=>?_)
 refine W.gb (fun _=>bL (S6 hf)) (fun r21 _=>?_)
 refine W.lt (fun b22 h22=>?_)
 refine W.gb (fun _=>W.idx (by omega)) (fun e23 q23=>?_)
 refine W.gb (fun _=>S9 h ‹_›) (fun r24 _=>?_)
 refine W.gb (fun g=>RR (h.lt _ (q23 g).1) (Vm hf)) (fun r25 _=>?_)
 refine W.lt (fun b26 h26=>?_)
 refine W.lt (fun b27 h27=>?_)
 refine W.if (fun _=>?_) (fun _=>hno)
 refine W.bd (W.app (by simp;omega) (by unfold maxLen;simp;omega)) (fun l17 q17=>?_)
 exact W.nx ⟨by dsimp only;omega,by dsimp only;omega,by dsimp only;rw [q17];simp;omega⟩ (by dsimp only;omega)
def yJ (k:Int):Int:=(Dw k).getD 0
theorem nU {k:Int}:W (Dw k) (fun r=>r=yJ k):=W.imp (W.get (Q:=fun _=>True) (d:=0) Nu) (fun _ h=>h.1)
def L3 (ms:List BI) (st:Int):Nat:=ms.countP (fun m=>yJ m.Kind==st)
theorem sT {ms:List BI} {st v:Int} {e:BI} (h0:0≤v) (h:v<ms.length) (he:e=ms.getD v.toNat default):L3 (ms.take (v+1).toNat) st=L3 (ms.take v.toNat) st+if yJ e.Kind==st then 1 else 0:=by
 unfold L3
 rw [FW h0 h,List.countP_append, ←he]
 simp [List.countP_cons]
theorem uL {ms:List BI} {st:Int} {k:Nat}:L3 (ms.take k) st≤L3 ms st:=List.Sublist.countP_le (List.take_sublist _ _)
theorem JL (h:WI s L w) (hi:0≤i∧i<L.length):W (D5 w i stage) (fun r=>B5 8 IR r∧r.length=L3 (L.getD i.toNat default).Mods stage):=by
 unfold D5
 rw [h.eL]
 refine W.bd (W.idx hi) (fun e1 q1=>?_)
 have hf:=h.lf e1 q1.1
 rw [←q1.2.1]
 have hm:=Gc hf
 have hml:=hm.1
 refine W.it (fun(v:Int×List Int)=>0≤v.1∧v.1≤e1.Mods.length∧v.2.length=L3 (e1.Mods.take v.1.toNat) stage) (fun v=>((e1.Mods.length:Int) - v.1).toNat) ⟨by simp,by simp,by simp [L3]⟩ (by simp;omega) (fun v hv=>?_)
 obtain⟨k,out⟩:=v
 simp only at hv
 obtain⟨v1,v2,v3⟩:=hv
 have hc:L3 (e1.Mods.take k.toNat) stage≤k.toNat:=Nat.le_trans (List.countP_le_length) (List.length_take_le _ _)
 show W (D4 w i stage e1 k out) _
 unfold D4 CF CG
 have w1:=Af (x:=k+1) (by omega) (by omega)
 refine W.if (fun hi=>?_) (fun hi=>?_)
 ·simp only [bz]at hi
  refine W.bd (W.idx (by omega)) (fun e q=>?_)
  have hs:=sT (st:=stage) v1 hi q.2.1
  have hyes: ∀ (n:Int),yJ e.Kind=stage→W ((app 8 out ([n]:List (Int))).bind fun l18=>(some (.inl ((Ac (k+(1:Int))),l18)):Option ((Int×List Int)⊕List Int))) (LQ (fun(v:Int×List Int)=>0≤v.1∧v.1≤e1.Mods.length∧v.2.length=L3 (e1.Mods.take v.1.toNat) stage) (fun v=>((e1.Mods.length:Int) - v.1).toNat) (k,out) (fun r=>W (C2 r) (fun r=>B5 8 IR r∧r.length=L3 e1.Mods stage))):=by
   intro n hn
   refine W.bd (W.app (by simp;omega) (by unfold maxLen;simp;omega)) (fun l17 q17=>?_)
   exact W.nx ⟨by dsimp only;omega,by dsimp only;omega,by dsimp only;rw [q17,w1,hs];simp [v3,hn]⟩ (by dsimp only;omega)
  refine W.bd nU (fun r14 q14=>?_)
  subst q14
  refine W.if (fun hb=>?_) (fun hb=>?_)
  ·simp only [bz]at hb
   exact W.nx ⟨by dsimp only;omega,by dsimp only;omega,by dsimp only;rw [w1,hs];simp [v3,hb]⟩ (by dsimp only;omega)
  ·simp only [bz]at hb
   refine W.re q.2.2 ?_
   refine W.if (fun _=>?_) (fun _=>hyes _ hb)
   refine W.bd (S9 h ‹_›) (fun r21 _=>?_)
   refine W.re q.2.2 ?_
   rw [h.eS]
   exact W.bd (mP h.o h.lt (Ba (Bp hm q.1))) (fun r23 _=>hyes _ hb)
 ·simp only [bz]at hi
  rw [Du hi]at v3
  refine W.ex ?_
  unfold C2
  have:L3 e1.Mods stage≤e1.Mods.length:=List.countP_le_length
  exact W.rt ⟨⟨by omega,fun _ _=>trivial⟩,v3⟩
theorem YD {t:Ah} {f:AU} {you:Int} {nums:List Int} (ht:A8 t) (hf:C4 f) (hn:nums.length=L3 f.Mods stage):W (Fm t f stage you nums) (fun r=>A8 r):=by
 unfold Fm Dr
 have hm:=Gc hf
 have hml:=hm.1
 refine W.it (fun(v:Int×Int×Ah)=>0≤v.2.1∧v.2.1≤f.Mods.length∧v.1=L3 (f.Mods.take v.2.1.toNat) stage∧A8 v.2.2) (fun v=>((f.Mods.length:Int) - v.2.1).toNat) ⟨by simp,by simp,by simp [L3],ht⟩ (by simp;omega) (fun v hv=>?_)
 obtain⟨n,k,t⟩:=v
 simp only at hv
 obtain⟨v1,v2,v3,v4⟩:=hv
 have hc:L3 (f.Mods.take k.toNat) stage≤k.toNat:=Nat.le_trans (List.countP_le_length) (List.length_take_le _ _)
 show W (C3 f stage you nums n k t) _
 unfold C3 Cu
 have w1:=Af (x:=k+1) (by omega) (by omega)
 have w2:=Af (x:=n+1) (by omega) (by omega)
 refine W.if (fun hi=>?_) (fun hi=>W.ex (W.rt v4))
 simp only [bz]at hi
 refine W.bd (W.idx (by omega)) (fun e q=>?_)
 have hs:=sT (st:=stage) v1 hi q.2.1
 have hle:L3 (f.Mods.take (k+1).toNat) stage≤L3 f.Mods stage:=uL
 refine W.bd nU (fun r14 q14=>?_)
 subst q14
 refine W.if (fun hb=>?_) (fun hb=>?_)
 ·rw [hb]at hs
  simp only [if_true]at hs
  refine W.re q.2.2 ?_
  refine W.bd (W.idx (by omega)) (fun e19 q19=>?_)
  refine W.bd (js v4 (Bp hm q.1)) (fun r20 q20=>?_)
  exact W.nx ⟨by dsimp only;omega,by dsimp only;omega,by dsimp only;rw [w1,w2,hs];omega,q20⟩ (by dsimp only;omega)
 ·rw [hb]at hs
  simp only [Bool.false_eq_true,if_false]at hs
  exact W.nx ⟨by dsimp only;omega,by dsimp only;omega,by dsimp only;rw [w1,hs];omega,v4⟩ (by dsimp only;omega)
theorem mem_set' {α:Type} {l:List α} {k:Nat} {x y:α} {p:α→Prop} (h: ∀ z∈l,p z) (hx:p x) (hy:y∈l.set k x):p y:=by
 rcases List.mem_or_eq_of_mem_set hy with q | q
 ·exact h y q
 ·exact q▸hx
theorem OY (h:WI s L w) (hi:0≤i∧i<L.length):W (D6 w i stage) (fun r=>WI s L r):=by
 unfold D6
 have k1:=h.bg
 have k2:=h.st
 have k3:=h.o
 have k4:=h.all
 have k5:=h.bl
 have k6:=h.n
 refine W.bd (Hj h hi) (fun r1 _=>?_)
 refine W.if (fun _=>W.rt h) (fun _=>?_)
 refine W.bd (JK h hi) (fun r3 q3=>?_)
 refine W.bd (JL (stage:=stage) h hi) (fun r4 q4=>?_)
 refine W.bd (S9 h hi) (fun r5 _=>?_)
 rw [Gd (by omega) (by omega),Gd (by omega) (by omega),Gd (by omega) (by omega),Gd (by omega) (by omega)]
 refine W.lt (fun l6 h6=>?_)
 refine W.lt (fun l7 h7=>?_)
 refine W.lt (fun l8 h8=>?_)
 refine W.lt (fun l9 h9=>?_)
 subst h6 h7 h8 h9
 refine W.bd (W.idx (by omega)) (fun e10 q10=>?_)
 refine W.lt (fun l11 h11=>?_)
 refine W.bd (W.idx (by omega)) (fun e12 q12=>?_)
 refine W.lt (fun l13 h13=>?_)
 refine W.it (fun(v:Int×List Ah×List Bool)=>0≤v.1∧v.1≤s.Objects.length∧v.2.1.length=s.Objects.length∧(∀ t∈v.2.1,A8 t)∧v.2.2.length=s.Objects.length) (fun v=>((s.Objects.length:Int) - v.1).toNat) ⟨by simp,by simp,k4,h.lt,k5⟩ (by simp;omega) (fun v hv=>?_)
 obtain⟨k,la,lb⟩:=v
 simp only at hv
 obtain⟨v1,v2,v3,v4,v5⟩:=hv
 show W (Dt w i stage r3 r4 r5 k la lb) _
 unfold Dt Cn
 rw [h.eS,h.eL]
 have w1:=Af (x:=k+1) (by omega) (by omega)
 refine W.if (fun hj=>?_) (fun hj=>?_)
 ·simp only [bz]at hj
  refine W.bd (W.idx (by omega)) (fun e30 q30=>?_)
  refine W.bd (bL q3) (fun r31 _=>?_)
  refine W.if (fun _=>W.nx ⟨by dsimp only;omega,by dsimp only;omega,v3,v4,v5⟩ (by dsimp only;omega)) (fun _=>?_)
  refine W.bd (W.idx (by omega)) (fun e33 q33=>?_)
  refine W.bd (W.idx hi) (fun e34 q34=>?_)
  refine W.bd (YD (h.lt _ q33.1) (h.lf _ q34.1) (by rw [q34.2.1];exact q4.2)) (fun r35 q35=>?_)
  refine W.bd (W.idx (by omega)) (fun e36 q36=>?_)
  refine W.lt (fun l37 h37=>?_)
  refine W.re q34.2.2 ?_
  refine W.bd (ji (h.lf _ q34.1)) (fun r39 _=>?_)
  refine W.if (fun _=>?_) (fun _=>?_)
  ·refine W.bd (W.idx (by omega)) (fun e41 q41=>?_)
   refine W.lt (fun l42 h42=>?_)
   exact W.nx ⟨by dsimp only;omega,by dsimp only;omega,by dsimp only;rw [h37,List.length_set];exact v3,by dsimp only;rw [h37];exact fun y hy=>mem_set' (p:=A8) v4 q35 hy,by dsimp only;rw [h42,List.length_set];exact v5⟩ (by dsimp only;omega)
  ·exact W.nx ⟨by dsimp only;omega,by dsimp only;omega,by dsimp only;rw [h37,List.length_set];exact v3,by dsimp only;rw [h37];exact fun y hy=>mem_set' (p:=A8) v4 q35 hy,v5⟩ (by dsimp only;omega)
 ·refine W.ex ?_
  unfold Ds
  refine W.rt ?_
  exact⟨h.lk,h.o,h.n,h.lf,h.eS,h.eL,v3,v4,by rw [h11];simpa using k1,by rw [h13];simpa using k2,by dsimp only;rw [h13];exact fun y hy=>mem_set' (p:=B5 8 IR) h.ls q3 hy,v5⟩
theorem jt (h:WI s L w) (hi:0≤i∧i<L.length) (hj:0≤j∧j<L.length):W (Kq w i j stage) (fun _=>True):=by
 unfold Kq
 refine W.if (fun _=>W.rt trivial) (fun _=>?_)
 refine W.bd (OY h hj) (fun v hv=>?_)
 refine W.bd (Hj h hi) (fun r3 _=>?_)
 refine W.bd (Hj hv hi) (fun r4 _=>?_)
 refine W.gb (fun _=>JK h hi) (fun r5 q5=>?_)
 refine W.gb (fun _=>JK hv hi) (fun r6 q6=>?_)
 refine W.gb (fun g=>Yv (q5 g) (q6 g)) (fun r7 _=>?_)
 refine W.lt (fun b8 h8=>?_)
 refine W.gb (fun _=>JL h hi) (fun r9 q9=>?_)
 refine W.gb (fun _=>JL hv hi) (fun r10 q10=>?_)
 refine W.gb (fun g=>Yv (q9 g).1 (q10 g).1) (fun r11 _=>?_)
 exact W.lt (fun b12 _=>W.rt trivial)
end
end Go.PL
