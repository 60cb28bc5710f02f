/- Plain laws of states: amounts, references, triggers, replacements. -/
import Derived.Test.YtelbpfkjhndccaaGreatDoorPlSbS
namespace Go.PL
open Go
set_option maxRecDepth 100000
set_option linter.all false
set_option maxHeartbeats 4000000
def dH (c:Int):Bool:=decide (0≤c)&&decide (c≤2)
theorem cr (c:Int): ∃ w,F0 c=some w∧(w==[])= !dH c∧(w != [])=dH c:=by
 unfold dH
 by_cases h:0≤c∧c≤2
 ·have:c=0∨c=1∨c=2:=by omega
  rcases this with rfl | rfl | rfl<;>exact⟨_,rfl,rfl,rfl⟩
 ·have e:(if decide (c<0)=true then true else decide (3≤c))=true:=by simp only [bz];omega
  have e2:(decide (0≤c)&&decide (c≤2))=false:=by rw [Bool.eq_false_iff];simpa using h
  unfold F0
  simp only [Option.bind_some]
  rw [if_pos e,e2]
  exact⟨_,rfl,rfl,rfl⟩
theorem fP (c:Int): ∃ w,P8 c=some w∧(w==[])= !dH c∧(w != [])=dH c:=by
 unfold dH
 by_cases h:0≤c∧c≤2
 ·have:c=0∨c=1∨c=2:=by omega
  rcases this with rfl | rfl | rfl<;>exact⟨_,rfl,rfl,rfl⟩
 ·have e2:(decide (0≤c)&&decide (c≤2))=false:=by rw [Bool.eq_false_iff];simpa using h
  unfold P8
  rw [if_neg (by simp;omega),if_neg (by simp;omega),if_neg (by simp;omega),e2]
  exact⟨_,rfl,rfl,rfl⟩
theorem pF {v:List UInt8} {b:Bool} (h:(v==[])= !b):(v=[])=(b=false):=by
 cases b<;>cases v<;>simp at *
theorem nr:Lu zF=true:=by
 have:CR zF=some true:=by kernel_rfl
 rw [D1]at this
 exact Option.some.inj this
theorem ns (j n:Int) (f:Af):((⟨j,n,0,f⟩:Bv)==⟨j,0,0,zF⟩)=decide (n=0∧f=zF):=by
 rw [mB];simp
theorem Zs (m:Bv):T (Fw m)∧Rh m=Fw m:=by
 obtain⟨k,n,c,f⟩:=m
 obtain⟨w,h1,h2,h3⟩:=cr c
 obtain⟨v,k1,k2,k3⟩:=fP c
 by_cases hk:0≤k∧k≤7
 ·have:k=0∨k=1∨k=2∨k=3∨k=4∨k=5∨k=6∨k=7:=by omega
  clear hk
  rcases this with rfl | rfl | rfl | rfl | rfl | rfl | rfl | rfl
  all_goals
   refine⟨?_,?_⟩
   ·simp [T,Fw,JI,DX,EF,h1,D1,Vh,dX,X0,O0,QA,bM,dT,jE]
   ·simp [Fw,JI,DX,EF,h1,h2,h3,D1,Vh,dX,X0,O0,QA,bM,dT,Rh,Kw,k1,pF k2,k3,NV]
    try first | grind | (have q:=fun j=>ns j n f;unfold zF at q;rw [q,q];cases dH c<;>simp)
 ·have h:(decide (k<0)||decide (7<k))=true:=by
   simp;omega
  have e1:Fw ⟨k,n,c,f⟩=some false:=by simp [Fw,QA,h,X0]
  have e2:(decide (0≤k)&&decide (k≤7))=false:=by rw [Bool.eq_false_iff];simpa using hk
  have e3:Rh ⟨k,n,c,f⟩=some false:=by
   unfold Rh
   rw [if_neg (by simp;omega),if_neg (by simp;omega),if_neg (by simp;omega)]
   simp [Kw,O0,e2]
  rw [e1,e3]
  exact⟨⟨_,rfl⟩,rfl⟩
theorem jF (m:IM) (s:Int):T (JR m s):=by
 have hJ: ∀ x y,T (HC m s x y):=fun x y=>by
  unfold HC
  simp only [Option.bind_some,D1,bM,jE]
  exact⟨_,rfl⟩
 unfold JR EH Iw
 repeat' (first | exact hJ _ _ | exact⟨_,rfl⟩ | refine dU ?_ ?_)
theorem fQ (m:IM) (s:Int):T (JR m s)∧Rf m s=JR m s:=by
 refine⟨jF m s,?_⟩
 obtain⟨k,n,f⟩:=m
 by_cases hk:1≤k∧k≤8
 ·have:k=1∨k=2∨k=3∨k=4∨k=5∨k=6∨k=7∨k=8:=by omega
  clear hk
  have hs: ∀ g:Int→Option Bool,(if decide (4<s)=true then g 4 else g s)=g (if 4<s then 4 else s):=fun g=>by by_cases h:4<s<;>simp [h]
  rcases this with rfl | rfl | rfl | rfl | rfl | rfl | rfl | rfl
  all_goals
   ·unfold Rf
    rw [hs]
    simp [JR,HC,Iw,EH,D1,Vh,dX,X0,O0,QA,bM,dT,Oh,Rd,P7,NV]
    try grind
 ·have e1:JR ⟨k,n,f⟩ s=some false:=by
   unfold JR
   rw [if_neg (by simp;omega),if_neg (by simp;omega),if_neg (by simp;omega),if_neg (by simp;omega)]
   unfold EH
   rw [if_neg (by simp;omega),if_neg (by simp;omega),if_neg (by simp;omega),if_neg (by simp;omega)]
  have h:(decide (k<1)||decide (8<k))=true:=by simp;omega
  have e2:Rf ⟨k,n,f⟩ s=some false:=by
   unfold Rf
   split<;>simp [Oh,QA,h]
  rw [e1,e2]
theorem jG (w:Int): ∃ t,EN w=some t∧(t==[])= !(decide (0≤w)&&decide (w≤2)):=by
 by_cases h:0≤w∧w≤2
 ·have:w=0∨w=1∨w=2:=by omega
  rcases this with rfl | rfl | rfl<;>exact⟨_,rfl,rfl⟩
 ·have e2:(decide (0≤w)&&decide (w≤2))=false:=by rw [Bool.eq_false_iff];simpa using h
  unfold EN
  rw [if_neg (by simp;omega),if_neg (by simp;omega),if_neg (by simp;omega),e2]
  exact⟨_,rfl,rfl⟩
theorem nt (m:By):T (DJ m):=by
 obtain⟨w,h1, -⟩:=jG m.Who
 have hJ: ∀ x z,T (Eo m x z):=fun x z=>by
  unfold Eo
  simp only [Option.bind_some,D1,jE]
  exact⟨_,rfl⟩
 have hu:T (E2 m.When):=by
  unfold E2 Dw BD
  repeat' (first | exact⟨_,rfl⟩ | refine dU ?_ ?_)
 obtain⟨u,hu⟩:=hu
 unfold DJ
 simp only [Option.bind_some,hu,h1,PG]
 repeat' (first | exact hJ _ _ | exact⟨_,rfl⟩ | refine dU ?_ ?_)
theorem lk (m:By):NP m=DJ m:=by
 obtain⟨k,n,f⟩:=m
 by_cases hk:1≤k∧k≤14
 ·have:k=1∨k=2∨k=3∨k=4∨k=5∨k=6∨k=7∨k=8∨k=9∨k=10∨k=11∨k=12∨k=13∨k=14:=by omega
  clear hk
  by_cases hn:0≤n∧n≤2
  ·have hn:n=0∨n=1∨n=2:=by omega
   rcases this with rfl | rfl | rfl | rfl | rfl | rfl | rfl | rfl | rfl | rfl | rfl | rfl | rfl | rfl<;>rcases hn with rfl | rfl | rfl
   all_goals
    simp [DJ,Eo,E2,Dw,BD,EN,N8,Xl,LD,D1,Vh,dX,X0,O0,QA,bM,dT,NP,Pd,K0,ME,OH,NV,T9,Ua,YR,RR,Ub,Wt,Wu,Wv,Ww,Uc,bZ,Wx,Wy,Ud]
  ·obtain⟨w,h1,h2⟩:=jG n
   rw [show (decide (0≤n)&&decide (n≤2))=false by rw [Bool.eq_false_iff];simpa using hn]at h2
   obtain rfl:w=[]:=beq_iff_eq.1 h2
   have n0:(n==0)=false:=by simp;omega
   have n1:(n != 0)=true:=by simp;omega
   have n2:(decide (n<0)||decide (2<n))=true:=by simp;omega
   have n3: ∀ y,(decide (n<0)||(decide (2<n)||y))=true:=fun y=>by rw [←Bool.or_assoc,n2,Bool.true_or]
   have e1:NP ⟨k,n,f⟩=some false:=by
    unfold NP
    obtain⟨x,hx⟩:T (K0 k):=by
     unfold K0
     repeat' (first | exact⟨_,rfl⟩ | refine dU ?_ ?_)
    simp only [hx,Option.bind_some,QA,Bool.or_assoc,n3,Bool.or_true,ME,PG,if_true,Bool.true_or]
   have e2:DJ ⟨k,n,f⟩=some false:=by
    obtain⟨u,hu⟩:T (E2 k):=by
     unfold E2 Dw BD
     repeat' (first | exact⟨_,rfl⟩ | refine dU ?_ ?_)
    unfold DJ
    simp only [hu,h1,Option.bind_some,QA,O0,PG,n1,Bool.and_true]
    cases u.1<;>simp
   rw [e1,e2]
 ·have h:(decide (k<1)||decide (14<k))=true:=by simp;omega
  have e1:DJ ⟨k,n,f⟩=some false:=by simp [DJ,QA,h]
  have e0:K0 k=some []:=by
   unfold K0
   iterate 14 rw [if_neg (by simp;omega)]
  have e2:NP ⟨k,n,f⟩=some false:=by
   simp [NP,e0,X0]
  rw [e1,e2]
theorem nu (m:AJ):T (DI m):=by
 obtain⟨w,h1, -, -⟩:=cr m.Counter
 have hJ: ∀ x,T (DY m x):=fun x=>by
  unfold DY
  simp only [Option.bind_some,h1,PG,jE]
  exact⟨_,rfl⟩
 obtain⟨d,hd⟩:T (DS m.On m.Do):=by
  unfold DS BN
  simp only [Option.bind_some]
  repeat' (first | exact⟨_,rfl⟩ | refine dU ?_ ?_)
 obtain⟨n,hn⟩:T (Fn m):=by
  unfold Fn Dl Dk Dj Di C2 CL
  simp only [Option.bind_some]
  repeat' (first | exact⟨_,rfl⟩ | refine dU ?_ ?_)
 unfold DI
 simp only [Option.bind_some,hd,hn,D1,PG]
 repeat' (first | exact hJ _ | exact⟨_,rfl⟩ | refine dU ?_ ?_)
theorem ll (m:AJ):Rk m=DI m:=by
 obtain⟨on,who,f,d,n,z,c⟩:=m
 obtain⟨w,h1,h2,h3⟩:=cr c
 have g7: ∀ g,((gd g (some w)).bind fun r16=>some (g&&r16 != []))=some (g&&dH c):=fun g=>by cases g<;>simp [dX,X0,h3]
 have hz:=nr
 unfold zF at hz
 by_cases ho:on=1∨on=2∨on=3∨on=4∨on=5∨on=8∨on=10
 ·by_cases hd:d=1∨d=2∨d=3∨d=4∨d=5∨d=6∨d=7∨d=8
  ·rcases ho with rfl | rfl | rfl | rfl | rfl | rfl | rfl<;>rcases hd with rfl | rfl | rfl | rfl | rfl | rfl | rfl | rfl
   all_goals
    simp [DI,DY,DS,BN,Fn,Dl,Dk,Dj,Di,C2,CL,h1,h3,g7,dH,Vh,dX,X0,O0,QA,bM,dT,D1,Rk,L4,Ri,Jl,L6,NV]
    try first | (grind;done) | (by_cases q2:z=0<;>by_cases q3:c=0<;>by_cases q4:f=⟨0,0,0,0,0,0,0,[],0,0,⟨0,0⟩,⟨0,0⟩,⟨0,0⟩⟩<;>rcases (show who=0∨who=1∨who=2∨who<0∨2<who by omega)with rfl | rfl | rfl | hw | hw<;>simp [q2,q3,q4,mB,hz]<;>(try grind)<;>simp [show ¬who=0 by omega,show ¬who=1 by omega,show ¬who=2 by omega,hw])
  ·have hd':DS on d=some false:=by
    rcases ho with rfl | rfl | rfl | rfl | rfl | rfl | rfl<;>simp [DS,BN]<;>omega
   have e1:DI ⟨on,who,f,d,n,z,c⟩=some false:=by
    simp [DI,hd',X0]
   rw [e1]
   have d1:(d==1)=false:=by simp;omega
   have d2:(d==2)=false:=by simp;omega
   have d3:(d==3)=false:=by simp;omega
   have d4:(d==4)=false:=by simp;omega
   have d5:(d==5)=false:=by simp;omega
   have d6:(d==6)=false:=by simp;omega
   have d7:(d==7)=false:=by simp;omega
   have d8:(d==8)=false:=by simp;omega
   rcases ho with rfl | rfl | rfl | rfl | rfl | rfl | rfl<;>simp [Rk,L4,Ri,Jl,L6,NV,d1,d2,d3,d4,d5,d6,d7,d8,Vh,X0,dX,O0,QA,bne]<;>split<;>rfl
 ·have hd':DS on d=some false:=by
   unfold DS BN
   iterate 6 rw [if_neg (by simp;omega)]
   rw [if_neg (by simp;omega)]
  have e1:DI ⟨on,who,f,d,n,z,c⟩=some false:=by
   simp [DI,hd',X0]
  rw [e1]
  unfold Rk
  rw [if_neg (by simp;omega)]
  obtain⟨b,hb⟩:T (L4 ⟨on,who,f,d,n,z,c⟩):=by
   unfold L4
   simp only [Option.bind_some,jE]
   exact⟨_,rfl⟩
  simp only [hb,Option.bind_some]
  refine(congrArg (fun o=>if(!b)=true then some false else o) ?_).trans (by cases b<;>rfl) (b:=if(!b)=true then some false else some false)
  iterate 5 rw [if_neg (by simp;omega)]
  unfold Jl
  rw [if_neg (by simp;omega)]
end Go.PL
