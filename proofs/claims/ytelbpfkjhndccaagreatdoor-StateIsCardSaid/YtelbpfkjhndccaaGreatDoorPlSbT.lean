/- Plain laws of states: amounts, references, triggers, replacements. -/
import Derived.Test.YtelbpfkjhndccaaGreatDoorPlSbS
namespace Go.PL
open Go
set_option maxRecDepth 100000
set_option linter.all false
set_option maxHeartbeats 4000000
def jY (c:Int):Bool:=decide (0≤c)&&decide (c≤2)
theorem iv (c:Int): ∃ w,GT c=some w∧(w==[])= !jY c∧(w != [])=jY c:=by
 unfold jY
 by_cases h:0≤c∧c≤2
 ·have:c=0∨c=1∨c=2:=by omega
  rcases this with rfl | rfl | rfl<;>exact⟨_,rfl,rfl,rfl⟩
 ·have e:(if decide (c<0)=true then true else decide (3≤c))=true:=by simp only [bz];omega
  have e2:(decide (0≤c)&&decide (c≤2))=false:=by rw [Bool.eq_false_iff];simpa using h
  unfold GT
  simp only [Option.bind_some]
  rw [if_pos e,e2]
  exact⟨_,rfl,rfl,rfl⟩
theorem mC (c:Int): ∃ w,OT c=some w∧(w==[])= !jY c∧(w != [])=jY c:=by
 unfold jY
 by_cases h:0≤c∧c≤2
 ·have:c=0∨c=1∨c=2:=by omega
  rcases this with rfl | rfl | rfl<;>exact⟨_,rfl,rfl,rfl⟩
 ·have e2:(decide (0≤c)&&decide (c≤2))=false:=by rw [Bool.eq_false_iff];simpa using h
  unfold OT
  rw [if_neg (by simp;omega),if_neg (by simp;omega),if_neg (by simp;omega),e2]
  exact⟨_,rfl,rfl,rfl⟩
theorem vg {v:List UInt8} {b:Bool} (h:(v==[])= !b):(v=[])=(b=false):=by
 cases b<;>cases v<;>simp at *
theorem tn:N1 zF=true:=by
 have:C4 zF=some true:=by kernel_rfl
 rw [Ed]at this
 exact Option.some.inj this
theorem tp (j n:Int) (f:Ag):((⟨j,n,0,f⟩:Bm)==⟨j,0,0,zF⟩)=decide (n=0∧f=zF):=by
 rw [sL];simp
theorem dg (m:Bm):T (Gc m)∧QG m=Gc m:=by
 obtain⟨k,n,c,f⟩:=m
 obtain⟨w,h1,h2,h3⟩:=iv c
 obtain⟨v,k1,k2,k3⟩:=mC c
 by_cases hk:0≤k∧k≤7
 ·have:k=0∨k=1∨k=2∨k=3∨k=4∨k=5∨k=6∨k=7:=by omega
  clear hk
  rcases this with rfl | rfl | rfl | rfl | rfl | rfl | rfl | rfl
  all_goals
   refine⟨?_,?_⟩
   ·simp [T,Gc,LO,D6,E4,h1,Ed,Sd,ii,Z9,Ph,PP,aq,ku,nq]
   ·simp [Gc,LO,D6,E4,h1,h2,h3,Ed,Sd,ii,Z9,Ph,PP,aq,ku,QG,IQ,k1,vg k2,k3,QN]
    try first | grind | (have q:=fun j=>tp j n f;unfold zF at q;rw [q,q];cases jY c<;>simp)
 ·have h:(decide (k<0)||decide (7<k))=true:=by
   simp;omega
  have e1:Gc ⟨k,n,c,f⟩=some false:=by simp [Gc,PP,h,Z9]
  have e2:(decide (0≤k)&&decide (k≤7))=false:=by rw [Bool.eq_false_iff];simpa using hk
  have e3:QG ⟨k,n,c,f⟩=some false:=by
   unfold QG
   rw [if_neg (by simp;omega),if_neg (by simp;omega),if_neg (by simp;omega)]
   simp [IQ,Ph,e2]
  rw [e1,e3]
  exact⟨⟨_,rfl⟩,rfl⟩
theorem pR (m:HQ) (s:Int):T (Md m s):=by
 have hJ: ∀ x y,T (IC m s x y):=fun x y=>by
  unfold IC
  simp only [Option.bind_some,Ed,aq,nq]
  exact⟨_,rfl⟩
 unfold Md E6 JK
 repeat' (first | exact hJ _ _ | exact⟨_,rfl⟩ | refine kw ?_ ?_)
theorem mD (m:HQ) (s:Int):T (Md m s)∧QF m s=Md m s:=by
 refine⟨pR m s,?_⟩
 obtain⟨k,n,f⟩:=m
 by_cases hk:1≤k∧k≤8
 ·have:k=1∨k=2∨k=3∨k=4∨k=5∨k=6∨k=7∨k=8:=by omega
  clear hk
  have hs: ∀ g:Int→Option Bool,(if decide (4<s)=true then g 4 else g s)=g (if 4<s then 4 else s):=fun g=>by by_cases h:4<s<;>simp [h]
  rcases this with rfl | rfl | rfl | rfl | rfl | rfl | rfl | rfl
  all_goals
   ·unfold QF
    rw [hs]
    simp [Md,IC,JK,E6,Ed,Sd,ii,Z9,Ph,PP,aq,ku,Lh,MQ,Mx,QN]
    try grind
 ·have e1:Md ⟨k,n,f⟩ s=some false:=by
   unfold Md
   rw [if_neg (by simp;omega),if_neg (by simp;omega),if_neg (by simp;omega),if_neg (by simp;omega)]
   unfold E6
   rw [if_neg (by simp;omega),if_neg (by simp;omega),if_neg (by simp;omega),if_neg (by simp;omega)]
  have h:(decide (k<1)||decide (8<k))=true:=by simp;omega
  have e2:QF ⟨k,n,f⟩ s=some false:=by
   unfold QF
   split<;>simp [Lh,PP,h]
  rw [e1,e2]
theorem pS (w:Int): ∃ t,Fc w=some t∧(t==[])= !(decide (0≤w)&&decide (w≤2)):=by
 by_cases h:0≤w∧w≤2
 ·have:w=0∨w=1∨w=2:=by omega
  rcases this with rfl | rfl | rfl<;>exact⟨_,rfl,rfl⟩
 ·have e2:(decide (0≤w)&&decide (w≤2))=false:=by rw [Bool.eq_false_iff];simpa using h
  unfold Fc
  rw [if_neg (by simp;omega),if_neg (by simp;omega),if_neg (by simp;omega),e2]
  exact⟨_,rfl,rfl⟩
theorem tq (m:Bs):T (DS m):=by
 obtain⟨w,h1, -⟩:=pS m.Who
 have hJ: ∀ x z,T (EJ m x z):=fun x z=>by
  unfold EJ
  simp only [Option.bind_some,Ed,nq]
  exact⟨_,rfl⟩
 have hu:T (Fw m.When):=by
  unfold Fw DG BH
  repeat' (first | exact⟨_,rfl⟩ | refine kw ?_ ?_)
 obtain⟨u,hu⟩:=hu
 unfold DS
 simp only [Option.bind_some,hu,h1,Rh]
 repeat' (first | exact hJ _ _ | exact⟨_,rfl⟩ | refine kw ?_ ?_)
theorem rE (m:Bs):Oq m=DS m:=by
 obtain⟨k,n,f⟩:=m
 by_cases hk:1≤k∧k≤14
 ·have:k=1∨k=2∨k=3∨k=4∨k=5∨k=6∨k=7∨k=8∨k=9∨k=10∨k=11∨k=12∨k=13∨k=14:=by omega
  clear hk
  by_cases hn:0≤n∧n≤2
  ·have hn:n=0∨n=1∨n=2:=by omega
   rcases this with rfl | rfl | rfl | rfl | rfl | rfl | rfl | rfl | rfl | rfl | rfl | rfl | rfl | rfl<;>rcases hn with rfl | rfl | rfl
   all_goals
    simp [DS,EJ,Fw,DG,BH,Fc,Pl,Zs,N9,Ed,Sd,ii,Z9,Ph,PP,aq,ku,Oq,Lf,Kt,K5,Lv,QN,RS,RT,Wm,Qq,RU,Tz,TA,TB,TC,RV,Zt,TD,TE,RW]
  ·obtain⟨w,h1,h2⟩:=pS n
   rw [show (decide (0≤n)&&decide (n≤2))=false by rw [Bool.eq_false_iff];simpa using hn]at h2
   obtain rfl:w=[]:=beq_iff_eq.1 h2
   have n0:(n==0)=false:=by simp;omega
   have n1:(n != 0)=true:=by simp;omega
   have n2:(decide (n<0)||decide (2<n))=true:=by simp;omega
   have n3: ∀ y,(decide (n<0)||(decide (2<n)||y))=true:=fun y=>by rw [←Bool.or_assoc,n2,Bool.true_or]
   have e1:Oq ⟨k,n,f⟩=some false:=by
    unfold Oq
    obtain⟨x,hx⟩:T (Kt k):=by
     unfold Kt
     repeat' (first | exact⟨_,rfl⟩ | refine kw ?_ ?_)
    simp only [hx,Option.bind_some,PP,Bool.or_assoc,n3,Bool.or_true,K5,Rh,if_true,Bool.true_or]
   have e2:DS ⟨k,n,f⟩=some false:=by
    obtain⟨u,hu⟩:T (Fw k):=by
     unfold Fw DG BH
     repeat' (first | exact⟨_,rfl⟩ | refine kw ?_ ?_)
    unfold DS
    simp only [hu,h1,Option.bind_some,PP,Ph,Rh,n1,Bool.and_true]
    cases u.1<;>simp
   rw [e1,e2]
 ·have h:(decide (k<1)||decide (14<k))=true:=by simp;omega
  have e1:DS ⟨k,n,f⟩=some false:=by simp [DS,PP,h]
  have e0:Kt k=some []:=by
   unfold Kt
   iterate 14 rw [if_neg (by simp;omega)]
  have e2:Oq ⟨k,n,f⟩=some false:=by
   simp [Oq,e0,Z9]
  rw [e1,e2]
theorem tr (m:AA):T (DR m):=by
 obtain⟨w,h1, -, -⟩:=iv m.Counter
 have hJ: ∀ x,T (D7 m x):=fun x=>by
  unfold D7
  simp only [Option.bind_some,h1,Rh,nq]
  exact⟨_,rfl⟩
 obtain⟨d,hd⟩:T (D3 m.On m.Do):=by
  unfold D3 BR
  simp only [Option.bind_some]
  repeat' (first | exact⟨_,rfl⟩ | refine kw ?_ ?_)
 obtain⟨n,hn⟩:T (F5 m):=by
  unfold F5 Dz Dy Dx Dw Db CW
  simp only [Option.bind_some]
  repeat' (first | exact⟨_,rfl⟩ | refine kw ?_ ?_)
 unfold DR
 simp only [Option.bind_some,hd,hn,Ed,Rh]
 repeat' (first | exact hJ _ | exact⟨_,rfl⟩ | refine kw ?_ ?_)
theorem rF (m:AA):QI m=DR m:=by
 obtain⟨on,who,f,d,n,z,c⟩:=m
 obtain⟨w,h1,h2,h3⟩:=iv c
 have g7: ∀ g,((gd g (some w)).bind fun r16=>some (g&&r16 != []))=some (g&&jY c):=fun g=>by cases g<;>simp [ii,Z9,h3]
 have hz:=tn
 unfold zF at hz
 by_cases ho:on=1∨on=2∨on=3∨on=4∨on=5∨on=8∨on=10
 ·by_cases hd:d=1∨d=2∨d=3∨d=4∨d=5∨d=6∨d=7∨d=8
  ·rcases ho with rfl | rfl | rfl | rfl | rfl | rfl | rfl<;>rcases hd with rfl | rfl | rfl | rfl | rfl | rfl | rfl | rfl
   all_goals
    simp [DR,D7,D3,BR,F5,Dz,Dy,Dx,Dw,Db,CW,h1,h3,g7,jY,Sd,ii,Z9,Ph,PP,aq,ku,Ed,QI,K6,OZ,G5,Lg,QN]
    try first | (grind;done) | (by_cases q2:z=0<;>by_cases q3:c=0<;>by_cases q4:f=⟨0,0,0,0,0,0,0,[],0,0,⟨0,0⟩,⟨0,0⟩,⟨0,0⟩⟩<;>rcases (show who=0∨who=1∨who=2∨who<0∨2<who by omega)with rfl | rfl | rfl | hw | hw<;>simp [q2,q3,q4,sL,hz]<;>(try grind)<;>simp [show ¬who=0 by omega,show ¬who=1 by omega,show ¬who=2 by omega,hw])
  ·have hd':D3 on d=some false:=by
    rcases ho with rfl | rfl | rfl | rfl | rfl | rfl | rfl<;>simp [D3,BR]<;>omega
   have e1:DR ⟨on,who,f,d,n,z,c⟩=some false:=by
    simp [DR,hd',Z9]
   rw [e1]
   have d1:(d==1)=false:=by simp;omega
   have d2:(d==2)=false:=by simp;omega
   have d3:(d==3)=false:=by simp;omega
   have d4:(d==4)=false:=by simp;omega
   have d5:(d==5)=false:=by simp;omega
   have d6:(d==6)=false:=by simp;omega
   have d7:(d==7)=false:=by simp;omega
   have d8:(d==8)=false:=by simp;omega
   rcases ho with rfl | rfl | rfl | rfl | rfl | rfl | rfl<;>simp [QI,K6,OZ,G5,Lg,QN,d1,d2,d3,d4,d5,d6,d7,d8,Sd,Z9,ii,Ph,PP,bne]<;>split<;>rfl
 ·have hd':D3 on d=some false:=by
   unfold D3 BR
   iterate 6 rw [if_neg (by simp;omega)]
   rw [if_neg (by simp;omega)]
  have e1:DR ⟨on,who,f,d,n,z,c⟩=some false:=by
   simp [DR,hd',Z9]
  rw [e1]
  unfold QI
  rw [if_neg (by simp;omega)]
  obtain⟨b,hb⟩:T (K6 ⟨on,who,f,d,n,z,c⟩):=by
   unfold K6
   simp only [Option.bind_some,nq]
   exact⟨_,rfl⟩
  simp only [hb,Option.bind_some]
  refine(congrArg (fun o=>if(!b)=true then some false else o) ?_).trans (by cases b<;>rfl) (b:=if(!b)=true then some false else some false)
  iterate 5 rw [if_neg (by simp;omega)]
  unfold G5
  rw [if_neg (by simp;omega)]
end Go.PL
