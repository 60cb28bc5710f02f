/- All characteristics: the law. -/
import Derived.Test.YtiddnfpjgojoaaaGreatDoorPlEtU
namespace Go.PL
open Go
set_option maxRecDepth 100000
set_option linter.all false
set_option maxHeartbeats 2000000
section
variable {s:Ao} {L:List AU} {w:AD} {i j stage:Int}
def Sq (n:Nat) (r:List (List Bool)):Prop:=r.length=n∧ ∀ x∈r,x.length=n
theorem mQ {left:List Int} (h:WI s L w) (hl: ∀ x∈left,0≤x∧x<L.length) (hll:left.length≤L.length):W (Kr w left stage) (fun r=>left ≠ []→r∈left):=by
 unfold Kr
 have hn:=h.n
 refine W.it (fun(v:Int×List Int×List (List Bool))=>0≤v.1∧v.1≤L.length∧v.2.1.length=v.1∧v.2.2.length=v.1∧ ∀ x∈v.2.2,x.length=L.length) (fun v=>((L.length:Int) - v.1).toNat) ⟨by simp,by simp,by simp,by simp,by simp⟩ (by simp;omega) (fun v hv=>?_)
 obtain⟨k,st,rel⟩:=v
 simp only at hv
 obtain⟨v1,v2,v3,v4,v5⟩:=hv
 show W (Fq w k st rel) _
 unfold Fq
 rw [h.eL]
 have w1:=Af (x:=k+1) (by omega) (by omega)
 refine W.if (fun hi=>?_) (fun hi=>?_)
 ·simp only [bz]at hi
  refine W.bd (W.idx (by omega)) (fun e41 q41=>?_)
  refine W.bd (W.app (by simp;omega) (by unfold maxLen;simp;omega)) (fun l42 q42=>?_)
  refine W.bd (W.need (by unfold maxLen;omega)) (fun u44 _=>?_)
  refine W.lt (fun l43 h43=>?_)
  refine W.bd (W.app (by simp;omega) (by unfold maxLen;simp;omega)) (fun l45 q45=>?_)
  refine W.nx ⟨by dsimp only;omega,by dsimp only;omega,by dsimp only;rw [q42,w1];simp;omega,by dsimp only;rw [q45,w1];simp;omega,?_⟩ (by dsimp only;omega)
  dsimp only;rw [q45]
  intro x hx
  rcases List.mem_append.1 hx with q | q
  ·exact v5 x q
  ·simp only [List.mem_singleton]at q;rw [q,h43];simp
 ·simp only [bz]at hi
  refine W.ex ?_
  have hsq:Sq L.length rel:=⟨by omega,v5⟩
  clear v1 v2 v3 v4 v5 w1 hi
  unfold GI
  refine W.it (fun(v:Int×List (List Bool))=>0≤v.1∧v.1≤left.length∧Sq L.length v.2) (fun v=>((left.length:Int) - v.1).toNat) ⟨by simp,by simp,hsq⟩ (by simp;omega) (fun v hv=>?_)
  obtain⟨a,rel⟩:=v
  simp only at hv
  obtain⟨v1,v2,v3⟩:=hv
  show W (Fp w left stage a rel) _
  unfold Fp
  have w1:=Af (x:=a+1) (by omega) (by omega)
  refine W.if (fun hi=>?_) (fun hi=>?_)
  ·simp only [bz]at hi
   refine W.it (fun(v:Int×List (List Bool))=>0≤v.1∧v.1≤left.length∧Sq L.length v.2) (fun v=>((left.length:Int) - v.1).toNat) ⟨by simp,by simp,v3⟩ (by simp;omega) (fun u hu=>?_)
   obtain⟨b,rel⟩:=u
   simp only at hu
   obtain⟨u1,u2,u3⟩:=hu
   have e1:=u3.1
   show W (Fo w left stage a b rel) _
   unfold Fo
   have w2:=Af (x:=b+1) (by omega) (by omega)
   refine W.if (fun hj=>?_) (fun hj=>?_)
   ·simp only [bz]at hj
    refine W.bd (W.idx (by omega)) (fun e23 q23=>?_)
    have k23:=hl _ q23.1
    refine W.bd (W.idx (by omega)) (fun e24 q24=>?_)
    have k24:=u3.2 _ q24.1
    refine W.bd (W.idx (by omega)) (fun e25 q25=>?_)
    have k25:=hl _ q25.1
    refine W.re q23.2.2 ?_
    refine W.re q25.2.2 ?_
    refine W.bd (jt h (by omega) (by omega)) (fun r28 _=>?_)
    refine W.bd (W.idx (by omega)) (fun e29 q29=>?_)
    refine W.lt (fun l30 h30=>?_)
    refine W.nx ⟨by dsimp only;omega,by dsimp only;omega,?_⟩ (by dsimp only;omega)
    dsimp only;rw [h30]
    exact⟨by rw [List.length_set];exact e1,fun x hx=>mem_set' (p:=fun x:List Bool=>x.length=L.length) u3.2 (by rw [List.length_set];exact k24) hx⟩
   ·refine W.ex ?_
    unfold Fn
    exact W.nx ⟨by dsimp only;omega,by dsimp only;omega,u3⟩ (by dsimp only;omega)
  ·refine W.ex ?_
   unfold GH
   refine W.bd (mh (by omega)) (fun r6 q6=>W.rt (fun hne=>?_))
   obtain⟨x,hx⟩:=List.exists_mem_of_ne_nil _ hne
   exact(q6 ⟨x,hx,(hl x hx).1⟩).1
theorem ZD (h:WI s L w):W (EU w) (fun r=>WI s L r):=by
 unfold EU
 have k3:=h.o
 have k4:=h.all
 refine W.it (fun(v:Int×List Ah)=>0≤v.1∧v.1≤w.All.length∧v.2.length=v.1∧ ∀ t∈v.2,A8 t) (fun v=>((w.All.length:Int) - v.1).toNat) ⟨by simp,by simp,by simp,by simp⟩ (by simp;omega) (fun v hv=>?_)
 obtain⟨k,out⟩:=v
 simp only at hv
 obtain⟨v1,v2,v3,v4⟩:=hv
 show W (D2 w k out) _
 unfold D2 CD
 have w1:=Af (x:=k+1) (by omega) (by omega)
 rw [h.eS]
 refine W.if (fun hi=>?_) (fun hi=>?_)
 ·simp only [bz]at hi
  have hgo: ∀ t,A8 t→W ((app 176 out ([t]:List Ah)).bind fun l14=>(some (.inl ((Ac (k+(1:Int))),l14)):Option ((Int×List Ah)⊕List Ah))) (LQ (fun(v:Int×List Ah)=>0≤v.1∧v.1≤w.All.length∧v.2.length=v.1∧ ∀ t∈v.2,A8 t) (fun v=>((w.All.length:Int) - v.1).toNat) (k,out) (fun r=>W (C1 w r) (fun r=>WI s L r))):=by
   intro t ht
   refine W.bd (W.app (by simp;omega) (by unfold maxLen;simp;omega)) (fun l14 q14=>?_)
   refine W.nx ⟨by dsimp only;omega,by dsimp only;omega,by dsimp only;rw [q14,w1];simp;omega,?_⟩ (by dsimp only;omega)
   dsimp only;rw [q14]
   intro x hx
   rcases List.mem_append.1 hx with q | q
   ·exact v4 x q
   ·simp only [List.mem_singleton]at q;exact q▸ht
  refine W.bd (W.idx (by omega)) (fun e10 q10=>?_)
  have ht:=h.lt _ q10.1
  refine W.bd (W.idx (by omega)) (fun e11 q11=>?_)
  refine W.lt (fun b15 _=>?_)
  refine W.if (fun _=>?_) (fun _=>hgo _ ht)
  refine W.bd jj (fun r17 _=>?_)
  refine W.bd F0 (fun r18 _=>?_)
  refine W.bd F0 (fun r19 _=>?_)
  exact hgo _ ⟨ht.1,ht.2.1,ht.2.2.1,trivial⟩
 ·simp only [bz]at hi
  refine W.ex ?_
  unfold C1
  exact W.rt ⟨h.lk,h.o,h.n,h.lf,h.eS,h.eL,by dsimp only;omega,v4,h.bg,h.st,h.ls,h.bl⟩
theorem OZ: ∀ {l:List Int} {a:Int},l.Nodup→a∈l→(l.filter (fun x=>x != a)).length +1=l.length
 | [],_,_,h=>by cases h
 | b::l,a,hn,ha=>by
   have h1:=List.nodup_cons.1 hn
   by_cases e:b=a
   ·subst e
    have:l.filter (fun x=>x != b)=l:=by
     rw [List.filter_eq_self]
     intro x hx
     have:x ≠ b:=fun e=>h1.1 (e▸hx)
     simpa using this
    simp [this]
   ·have ha':a∈l:=by
     rcases List.mem_cons.1 ha with q | q
     ·exact absurd q.symm e
     ·exact q
    have:=OZ h1.2 ha'
    rw [List.filter_cons,if_pos (by simpa using e)]
    simp;omega
theorem eJ (h:WI s L w):W (Lw w stage) (fun r=>WI s L r.1):=by
 unfold Lw
 simp only [jn]
 have key: ∀ w,WI s L w→W (JH stage w) (fun r=>WI s L r.1):=by
  intro w h
  have hn:=h.n
  unfold JH
  simp only [jn]
  refine W.it (fun(v:Int×List Int)=>0≤v.1∧v.1≤L.length∧v.2.length≤v.1∧v.2.Nodup∧ ∀ x∈v.2,0≤x∧x<v.1) (fun v=>((L.length:Int) - v.1).toNat) ⟨by simp,by simp,by simp,by simp,by simp⟩ (by simp;omega) (fun v hv=>?_)
  obtain⟨k,lf⟩:=v
  simp only at hv
  obtain⟨v1,v2,v3,v4,v5⟩:=hv
  show W (Iy stage w k lf) _
  unfold Iy
  simp only [jn]
  unfold Ng
  rw [h.eL]
  have w1:=Af (x:=k+1) (by omega) (by omega)
  refine W.if (fun hi=>?_) (fun hi=>?_)
  ·simp only [bz]at hi
   refine W.bd (W.idx (by omega)) (fun e35 q35=>?_)
   refine W.bd (Zu (h.lf _ q35.1)) (fun r36 _=>?_)
   refine W.if (fun _=>?_) (fun _=>W.nx ⟨by dsimp only;omega,by dsimp only;omega,by dsimp only;omega,v4,fun x hx=>?_⟩ (by dsimp only;omega))
   ·refine W.bd (W.app (by simp;omega) (by unfold maxLen;simp;omega)) (fun l38 q38=>?_)
    refine W.nx ⟨by dsimp only;omega,by dsimp only;omega,by dsimp only;rw [q38,w1];simp;omega,?_,?_⟩ (by dsimp only;omega)
    ·dsimp only;rw [q38,List.nodup_append]
     exact⟨v4,by simp,fun a ha b hb=>by simp at hb;subst hb;have:=v5 a ha;omega⟩
    ·dsimp only;rw [q38,w1]
     intro x hx
     rcases List.mem_append.1 hx with q | q
     ·have:=v5 x q;omega
     ·simp only [List.mem_singleton]at q;omega
   ·have:=v5 x hx;dsimp only;omega
  ·simp only [bz]at hi
   refine W.ex ?_
   unfold OQ
   simp only [jn]
   unfold OP
   refine W.it (fun(v:List Int×Int×AD×List Int)=>0≤v.2.1∧v.2.1≤lf.length∧(v.1.length:Int)=lf.length - v.2.1∧v.1.Nodup∧(∀ x∈v.1,0≤x∧x<L.length)∧WI s L v.2.2.1∧v.2.2.2.length=v.2.1) (fun v=>((lf.length:Int) - v.2.1).toNat) ⟨by simp,by simp,by simp,v4,fun x hx=>by have:=v5 x hx;omega,h,by simp⟩ (by simp;omega) (fun v hv=>?_)
   obtain⟨lt,n,w,ord⟩:=v
   simp only at hv
   obtain⟨u1,u2,u3,u4,u5,u6,u7⟩:=hv
   show W (Ix stage lf lt n w ord) _
   unfold Ix
   have w2:=Af (x:=n+1) (by omega) (by omega)
   refine W.if (fun hj=>?_) (fun hj=>W.ex (W.rt u6))
   simp only [bz]at hj
   refine W.bd (mQ u6 u5 (by omega)) (fun r21 q21=>?_)
   have hr:r21∈lt:=q21 (fun e=>by rw [e]at u3;simp at u3;omega)
   refine W.bd (W.app (by simp;omega) (by unfold maxLen;simp;omega)) (fun l22 q22=>?_)
   refine W.bd (OY u6 (u5 _ hr)) (fun r23 q23=>?_)
   refine W.bd (ZA (by omega)) (fun r24 q24=>?_)
   have hf:=OZ u4 hr
   refine W.nx ⟨by dsimp only;omega,by dsimp only;omega,by dsimp only;rw [q24,w2];omega,by dsimp only;rw [q24];exact List.Nodup.sublist List.filter_sublist u4,?_,q23,by dsimp only;rw [q22,w2];simp;omega⟩ (by dsimp only;omega)
   dsimp only;rw [q24]
   exact fun x hx=>u5 x (List.mem_filter.1 hx).1
 refine W.if (fun _=>?_) (fun _=>key w h)
 exact W.bd (ZD h) (fun r40 q40=>key r40 q40)
end
section
variable {cards:List A1} {s:Ao}
theorem eK (hc:B5 176 Cy cards) (h8: ∀ y∈cards,y.Abilities.length≤8) (hs:Bk s) (ho:s.Objects.length≤2048) (hk:s.Conts.length≤64):W (Ir cards s) (fun r=>r.length≤16448∧ ∀ f∈r,C4 f):=by
 unfold Ir
 simp only [jn]
 refine W.it (fun(v:Int×List AU)=>0≤v.1∧v.1≤s.Objects.length∧v.2.length≤8*v.1∧ ∀ f∈v.2,C4 f) (fun v=>((s.Objects.length:Int) - v.1).toNat) ⟨by simp,by simp,by simp,by simp⟩ (by simp;omega) (fun v hv=>?_)
 obtain⟨k,out⟩:=v
 simp only at hv
 obtain⟨v1,v2,v3,v4⟩:=hv
 show W (Iq cards s k out) _
 unfold Iq
 simp only [jn]
 unfold M8
 have w1:=Af (x:=k+1) (by omega) (by omega)
 refine W.if (fun hi=>?_) (fun hi=>?_)
 ·simp only [bz]at hi
  refine W.bd (W.idx (by omega)) (fun e25 q25=>?_)
  refine W.if (fun _=>W.nx ⟨by dsimp only;omega,by dsimp only;omega,by dsimp only;omega,v4⟩ (by dsimp only;omega)) (fun _=>?_)
  refine W.bd (jr hc h8) (fun r27 q27=>?_)
  have q8:=q27.2
  have qa:=Ol q27.1
  refine W.it (fun(v:Int×List AU)=>0≤v.1∧v.1≤r27.Abilities.length∧v.2.length≤8*k+v.1∧ ∀ f∈v.2,C4 f) (fun v=>((r27.Abilities.length:Int) - v.1).toNat) ⟨by simp,by simp,by dsimp only;omega,v4⟩ (by simp;omega) (fun u hu=>?_)
  obtain⟨j,o2⟩:=u
  simp only at hu
  obtain⟨u1,u2,u3,u4⟩:=hu
  show W (Ip e25 r27 j o2) _
  unfold Ip
  simp only [jn]
  unfold M9
  have w2:=Af (x:=j+1) (by omega) (by omega)
  refine W.if (fun hj=>?_) (fun hj=>W.ex (W.nx ⟨by dsimp only;omega,by dsimp only;omega,by dsimp only;omega,u4⟩ (by dsimp only;omega)))
  simp only [bz]at hj
  refine W.bd (W.idx (by omega)) (fun e38 q38=>?_)
  have ka:=Bp qa q38.1
  refine W.if (fun _=>?_) (fun _=>W.nx ⟨by dsimp only;omega,by dsimp only;omega,by dsimp only;omega,u4⟩ (by dsimp only;omega))
  refine W.bd (W.app (by simp;omega) (by unfold maxLen;simp;omega)) (fun l40 q40=>?_)
  refine W.nx ⟨by dsimp only;omega,by dsimp only;omega,by dsimp only;rw [q40,w2];simp;omega,?_⟩ (by dsimp only;omega)
  dsimp only;rw [q40]
  intro x hx
  rcases List.mem_append.1 hx with q | q
  ·exact u4 x q
  ·simp only [List.mem_singleton]at q;subst q
   exact⟨G6,Fv ka,Dv ka,trivial⟩
 ·simp only [bz]at hi
  refine W.ex ?_
  unfold OO
  simp only [jn]
  refine W.it (fun(v:Int×List AU)=>0≤v.1∧v.1≤s.Conts.length∧v.2.length≤16384+v.1∧ ∀ f∈v.2,C4 f) (fun v=>((s.Conts.length:Int) - v.1).toNat) ⟨by simp,by simp,by dsimp only;omega,v4⟩ (by simp;omega) (fun u hu=>?_)
  obtain⟨j,o2⟩:=u
  simp only at hu
  obtain⟨u1,u2,u3,u4⟩:=hu
  show W (Io s j o2) _
  unfold Io
  have w2:=Af (x:=j+1) (by omega) (by omega)
  refine W.if (fun hj=>?_) (fun hj=>W.ex (W.rt ⟨by omega,u4⟩))
  simp only [bz]at hj
  refine W.bd (W.idx (by omega)) (fun e13 q13=>?_)
  have ka:=Bp (Fw hs) q13.1
  refine W.bd (W.app (by simp;omega) (by unfold maxLen;simp;omega)) (fun l14 q14=>?_)
  refine W.nx ⟨by dsimp only;omega,by dsimp only;omega,by dsimp only;rw [q14,w2];simp;omega,?_⟩ (by dsimp only;omega)
  dsimp only;rw [q14]
  intro x hx
  rcases List.mem_append.1 hx with q | q
  ·exact u4 x q
  ·simp only [List.mem_singleton]at q;subst q
   exact⟨LY ka,⟨nT,trivial⟩,RJ ka,trivial⟩
theorem ju (hc:B5 176 Cy cards) (h8: ∀ y∈cards,y.Abilities.length≤8) (hs:Bk s) (ho:s.Objects.length≤2048) (hk:s.Conts.length≤64):W (Hx cards s) (fun r=> ∃ L,WI s L r):=by
 unfold Hx
 refine W.bd (eK hc h8 hs ho hk) (fun L qL=>?_)
 have qn:=qL.1
 refine W.it (fun(v:Int×List Ah)=>0≤v.1∧v.1≤s.Objects.length∧v.2.length=v.1∧ ∀ t∈v.2,A8 t) (fun v=>((s.Objects.length:Int) - v.1).toNat) ⟨by simp,by simp,by simp,by simp⟩ (by simp;omega) (fun v hv=>?_)
 obtain⟨k,out⟩:=v
 simp only at hv
 obtain⟨v1,v2,v3,v4⟩:=hv
 show W (Ey cards s k out) _
 unfold Ey
 have w1:=Af (x:=k+1) (by omega) (by omega)
 refine W.if (fun hi=>?_) (fun hi=>?_)
 ·simp only [bz]at hi
  refine W.bd (W.idx (by omega)) (fun e17 q17=>?_)
  refine W.bd (jr hc h8) (fun r18 q18=>?_)
  refine W.bd (W.app (by simp;omega) (by unfold maxLen;simp;omega)) (fun l19 q19=>?_)
  refine W.nx ⟨by dsimp only;omega,by dsimp only;omega,by dsimp only;rw [q19,w1];simp;omega,?_⟩ (by dsimp only;omega)
  dsimp only;rw [q19]
  intro x hx
  rcases List.mem_append.1 hx with q | q
  ·exact v4 x q
  ·simp only [List.mem_singleton]at q;exact q▸q18.1
 ·simp only [bz]at hi
  refine W.ex ?_
  unfold Fl
  refine W.bd (W.need (by unfold maxLen;omega)) (fun _ _=>?_)
  refine W.lt (fun l4 h4=>?_)
  refine W.bd (W.need (by unfold maxLen;omega)) (fun _ _=>?_)
  refine W.lt (fun l6 h6=>?_)
  refine W.bd (W.need (by unfold maxLen;omega)) (fun _ _=>?_)
  refine W.lt (fun l8 h8=>?_)
  refine W.rt ⟨L,hs,ho,qL.1,qL.2,rfl,rfl,by dsimp only;omega,v4,by dsimp only;rw [h4];simp,by dsimp only;rw [h6];simp,?_,by dsimp only;rw [h8];simp⟩
  dsimp only;rw [h6]
  intro x hx
  rw [(List.mem_replicate.1 hx).2];exact G6
theorem pS (hc:B5 176 Cy cards) (h8: ∀ y∈cards,y.Abilities.length≤8) (hs:Bk s) (ho:s.Objects.length≤2048) (hk:s.Conts.length≤64):W (VY cards s) (fun _=>True):=by
 unfold VY
 simp only [jn]
 refine W.bd (ju hc h8 hs ho hk) (fun w ⟨L,hw⟩=>?_)
 refine W.it (fun(v:Int×AD)=>1≤v.1∧v.1≤9∧WI s L v.2) (fun v=>((9:Int) - v.1).toNat) ⟨by simp,by simp,hw⟩ (by simp) (fun v hv=>?_)
 obtain⟨i,w⟩:=v
 simp only at hv
 obtain⟨v1,v2,v3⟩:=hv
 show W (Nh i w) _
 unfold Nh
 have w1:=Af (x:=i+1) (by omega) (by omega)
 refine W.if (fun hi=>?_) (fun hi=>W.ex (W.rt trivial))
 simp only [bz]at hi
 exact W.bd (eJ v3) (fun r12 q12=>W.nx ⟨by dsimp only;omega,by dsimp only;omega,q12⟩ (by dsimp only;omega))
end
theorem jv:EV=some true:=by kernel_rfl
theorem Tt {a0:List A1} {a1:Ao} {a2:Be} (k0:B5 176 Cy a0) (k1:Bk a1):Cx a0 a1 a2=some true:=by
 obtain⟨r,h1,h2⟩:W (Cx a0 a1 a2) (fun r=>r=true):=by
  unfold Cx
  refine W.bd (Zy k0 k1) (fun r1 q1=>?_)
  refine W.if (fun _=>?_) (fun hb=>?_)
  ·rw [jv];exact W.lt (fun r h=>W.rt h)
  ·simp only [bz]at hb
   obtain⟨q8,qo,qk⟩:=q1 hb
   refine W.bd (pS k0 q8 k1 qo qk) (fun r4 _=>?_)
   rw [jv]
   refine W.lt (fun r5 h5=>?_)
   refine W.gb (fun _=>Vq qo) (fun r6 q6=>?_)
   refine W.gb (fun _=>Zz qo) (fun r7 q7=>?_)
   refine W.lt (fun b8 h8=>W.rt ?_)
   rw [h8,h5,q6 (by rw [h5];rfl),q7 (by rw [h5];rfl)]
   simp
 rw [h1,h2]
end Go.PL
