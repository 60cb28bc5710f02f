/- Plain laws of states: amounts, references, triggers, replacements. -/
import Derived.Test.YtenjiecnhncfiaaGreatDoorPlCkS
namespace Go.PL
open Go
set_option maxRecDepth 100000
set_option linter.all false
set_option maxHeartbeats 4000000
def vl (c:Int):Bool:=decide (0<=c)&&decide (c<=2)
theorem tb (c:Int): ∃ w,EO c=some w/\(w==[])= !vl c/\(w != [])=vl c:=by
 unfold vl;by_cases h:0<=c/\c<=2
 ·have:c=0\/c=1\/c=2:=by omega
  rcases this with rfl | rfl | rfl<;>exact⟨_,rfl,rfl,rfl⟩
 ·have e:(if decide (c<0) then true else decide (3<=c))=true:=by simp only [bz];omega
  have e2:(decide (0<=c)&&decide (c<=2))=false:=by rw [Bool.eq_false_iff];simpa using h
  unfold EO;simp only [Option.bind_some];rw [if_pos e,e2];exact⟨_,rfl,rfl,rfl⟩
theorem yN (c:Int): ∃ w,Ph c=some w/\(w==[])= !vl c/\(w != [])=vl c:=by
 unfold vl;by_cases h:0<=c/\c<=2
 ·have:c=0\/c=1\/c=2:=by omega
  rcases this with rfl | rfl | rfl<;>exact⟨_,rfl,rfl,rfl⟩
 ·have e2:(decide (0<=c)&&decide (c<=2))=false:=by rw [Bool.eq_false_iff];simpa using h
  unfold Ph;rw [if_neg (by simp;omega),if_neg (by simp;omega),if_neg (by simp;omega),e2];exact⟨_,rfl,rfl,rfl⟩
theorem eqv {v:List UInt8} {b:Bool} (h:(v==[])= !b):(v=[])=(b=false):=by cases b<;>cases v<;>simp at *
theorem Agq:Lo zF=true:=by
 have:BX zF=some true:=by kernel_rfl
 rw [Ct]at this;exact Option.some.inj this
theorem Agr (j n:Int) (f:Aj):((⟨j,n,0,f⟩:AY)==⟨j,0,0,zF⟩)=decide (n=0/\f=zF):=by rw [AfT];simp
theorem n7 (m:AY):T (D1 m)/\RO m=D1 m:=by
 obtain⟨k,n,c,f⟩:=m;obtain⟨w,h1,h2,h3⟩:=tb c;obtain⟨v,k1,k2,k3⟩:=yN c;by_cases hk:0<=k/\k<=7
 ·have:k=0\/k=1\/k=2\/k=3\/k=4\/k=5\/k=6\/k=7:=by omega
  clear hk;rcases this with rfl | rfl | rfl | rfl | rfl | rfl | rfl | rfl
  all_goals
   refine⟨?_,?_⟩
   ·simp [jn,T,D1,Lg,Kx,Ky,h1,Ct,oC,yu,kI,Vp,SR,oD,sK,ifQ]
   ·simp [jn,D1,Lg,Kx,Ky,h1,h2,h3,Ct,oC,yu,kI,Vp,SR,oD,sK,RO,V0,k1,eqv k2,k3,PF]
    try first | grind | (have q:=fun j=>Agr j n f;unfold zF at q;rw [q,q];cases vl c<;>simp)
 ·have h:(decide (k<0)||decide (7<k))=true:=by simp;omega
  have e1:D1 ⟨k,n,c,f⟩=some false:=by simp [jn,D1,SR,h,kI]
  have e2:(decide (0<=k)&&decide (k<=7))=false:=by rw [Bool.eq_false_iff];simpa using hk
  have e3:RO ⟨k,n,c,f⟩=some false:=by simp only [RO,jn];rw [if_neg (by simp;omega),if_neg (by simp;omega),if_neg (by simp;omega)];simp [jn,V0,Vp,e2]
  rw [e1,e3];exact⟨⟨_,rfl⟩,rfl⟩
theorem Acy (m:Ht) (s:Int):T (KG m s):=by
 have hJ: ∀ x y,T (Qg m s x y):=fun x y=>by unfold Qg;simp only [Option.bind_some,Ct,oD,ifQ];exact⟨_,rfl⟩
 simp only [KG,NG,RK,jn]
 repeat' (first | exact hJ _ _ | exact⟨_,rfl⟩ | refine Tif ?_ ?_)
theorem yO (m:Ht) (s:Int):T (KG m s)/\RN m s=KG m s:=by
 refine⟨Acy m s,?_⟩;obtain⟨k,n,f⟩:=m;by_cases hk:1<=k/\k<=8
 ·have:k=1\/k=2\/k=3\/k=4\/k=5\/k=6\/k=7\/k=8:=by omega
  clear hk;have hs: ∀ g:Int->Option Bool,(if decide (4<s) then g 4 else g s)=g (if 4<s then 4 else s):=fun g=>by by_cases h:4<s<;>simp [h]
  rcases this with rfl | rfl | rfl | rfl | rfl | rfl | rfl | rfl
  all_goals
   ·simp only [RN,jn];rw [hs];simp [jn,KG,Qg,RK,NG,Ct,oC,yu,kI,Vp,SR,oD,sK,VZ,gZ,Nz,PF]
    try grind
 ·have e1:KG ⟨k,n,f⟩ s=some false:=by simp only [KG,jn];rw [if_neg (by simp;omega),if_neg (by simp;omega),if_neg (by simp;omega),if_neg (by simp;omega)];unfold NG;rw [if_neg (by simp;omega),if_neg (by simp;omega),if_neg (by simp;omega),if_neg (by simp;omega)]
  have h:(decide (k<1)||decide (8<k))=true:=by simp;omega
  have e2:RN ⟨k,n,f⟩ s=some false:=by simp only [RN,jn];split<;>simp [jn,VZ,SR,h]
  rw [e1,e2]
theorem Acz (w:Int): ∃ t,DQ w=some t/\(t==[])= !(decide (0<=w)&&decide (w<=2)):=by
 by_cases h:0<=w/\w<=2
 ·have:w=0\/w=1\/w=2:=by omega
  rcases this with rfl | rfl | rfl<;>exact⟨_,rfl,rfl⟩
 ·have e2:(decide (0<=w)&&decide (w<=2))=false:=by rw [Bool.eq_false_iff];simpa using h
  unfold DQ;rw [if_neg (by simp;omega),if_neg (by simp;omega),if_neg (by simp;omega),e2];exact⟨_,rfl,rfl⟩
theorem Ags (m:A0):T (CD m):=by
 obtain⟨w,h1, -⟩:=Acz m.Who;have hJ: ∀ x z,T (HZ m x z):=fun x z=>by unfold HZ;simp only [Option.bind_some,Ct,ifQ];exact⟨_,rfl⟩
 have hu:T (DJ m.afJ):=by
  simp only [DJ,FC,FD,jn]
  repeat' (first | exact⟨_,rfl⟩ | refine Tif ?_ ?_)
 obtain⟨u,hu⟩:=hu;simp only [CD,jn];simp only [Option.bind_some,hu,h1,QC]
 repeat' (first | exact hJ _ _ | exact⟨_,rfl⟩ | refine Tif ?_ ?_)
theorem AeV (m:A0):NL m=CD m:=by
 obtain⟨k,n,f⟩:=m;by_cases hk:1<=k/\k<=14
 ·have:k=1\/k=2\/k=3\/k=4\/k=5\/k=6\/k=7\/k=8\/k=9\/k=10\/k=11\/k=12\/k=13\/k=14:=by omega
  clear hk;by_cases hn:0<=n/\n<=2
  ·have hn:n=0\/n=1\/n=2:=by omega
   rcases this with rfl | rfl | rfl | rfl | rfl | rfl | rfl | rfl | rfl | rfl | rfl | rfl | rfl | rfl<;>rcases hn with rfl | rfl | rfl
   all_goals
    simp [jn,CD,HZ,DJ,FC,FD,DQ,YN,sQ,QF,Ct,oC,yu,kI,Vp,SR,oD,sK,NL,cH,Ix,KB,LF,PF,bc,be,mT,W8,bg,gK,gL,gM,gN,bh,sR,gO,gP,bi]
  ·obtain⟨w,h1,h2⟩:=Acz n;rw [show (decide (0<=n)&&decide (n<=2))=false by rw [Bool.eq_false_iff];simpa using hn]at h2;obtain rfl:w=[]:=beq_iff_eq.1 h2;have n0:(n==0)=false:=by simp;omega
   have n1:(n != 0)=true:=by simp;omega
   have n2:(decide (n<0)||decide (2<n))=true:=by simp;omega
   have n3: ∀ y,(decide (n<0)||(decide (2<n)||y))=true:=fun y=>by rw [<-Bool.or_assoc,n2,Bool.true_or]
   have e1:NL ⟨k,n,f⟩=some false:=by
    simp only [NL,jn];obtain⟨x,hx⟩:T (Ix k):=by
     unfold Ix
     repeat' (first | exact⟨_,rfl⟩ | refine Tif ?_ ?_)
    simp only [hx,Option.bind_some,SR,Bool.or_assoc,n3,Bool.or_true,KB,QC,if_true,Bool.true_or]
   have e2:CD ⟨k,n,f⟩=some false:=by
    obtain⟨u,hu⟩:T (DJ k):=by
     simp only [DJ,FC,FD,jn]
     repeat' (first | exact⟨_,rfl⟩ | refine Tif ?_ ?_)
    simp only [CD,jn];simp only [hu,h1,Option.bind_some,SR,Vp,QC,n1,Bool.and_true];cases u.1<;>simp
   rw [e1,e2]
 ·have h:(decide (k<1)||decide (14<k))=true:=by simp;omega
  have e1:CD ⟨k,n,f⟩=some false:=by simp [jn,CD,SR,h]
  have e0:Ix k=some []:=by unfold Ix;iterate 14 rw [if_neg (by simp;omega)]
  have e2:NL ⟨k,n,f⟩=some false:=by simp [jn,NL,e0,kI]
  rw [e1,e2]
theorem Agt (m:Au):T (CC m):=by
 obtain⟨w,h1, -, -⟩:=tb m.o_;have hJ: ∀ x,T (GV m x):=fun x=>by unfold GV;simp only [Option.bind_some,h1,QC,ifQ];exact⟨_,rfl⟩
 obtain⟨d,hd⟩:T (CJ m.On m.Do):=by
  simp only [CJ,Du,jn];simp only [Option.bind_some]
  repeat' (first | exact⟨_,rfl⟩ | refine Tif ?_ ?_)
 obtain⟨n,hn⟩:T (Ew m):=by
  simp only [Ew,GN,GM,GK,GJ,FO,GI,jn];simp only [Option.bind_some]
  repeat' (first | exact⟨_,rfl⟩ | refine Tif ?_ ?_)
 simp only [CC,jn];simp only [Option.bind_some,hd,hn,Ct,QC]
 repeat' (first | exact hJ _ | exact⟨_,rfl⟩ | refine Tif ?_ ?_)
theorem AeW (m:Au):RP m=CC m:=by
 obtain⟨on,who,f,d,n,z,c⟩:=m;obtain⟨w,h1,h2,h3⟩:=tb c;have g7: ∀ g,((gd g (some w)).bind fun r16=>some (g&&r16 != []))=some (g&&vl c):=fun g=>by cases g<;>simp [yu,kI,h3]
 have hz:=Agq;unfold zF at hz;by_cases ho:on=1\/on=2\/on=3\/on=4\/on=5\/on=8\/on=10
 ·by_cases hd:d=1\/d=2\/d=3\/d=4\/d=5\/d=6\/d=7\/d=8
  ·rcases ho with rfl | rfl | rfl | rfl | rfl | rfl | rfl<;>rcases hd with rfl | rfl | rfl | rfl | rfl | rfl | rfl | rfl
   all_goals
    simp [jn,CC,GV,CJ,Du,Ew,GN,GM,GK,GJ,FO,GI,h1,h3,g7,vl,oC,yu,kI,Vp,SR,oD,sK,Ct,RP,Jz,Qh,NN,JB,PF]
    try first | (grind;done) | (by_cases q2:z=0<;>by_cases q3:c=0<;>by_cases q4:f=⟨0,0,0,0,0,0,0,[],0,0,⟨0,0⟩,⟨0,0⟩,⟨0,0⟩⟩<;>rcases (show who=0\/who=1\/who=2\/who<0\/2<who by omega)with rfl | rfl | rfl | hw | hw<;>simp [q2,q3,q4,AfT,hz]<;>(try grind)<;>simp [show ¬who=0 by omega,show ¬who=1 by omega,show ¬who=2 by omega,hw])
  ·have hd':CJ on d=some false:=by rcases ho with rfl | rfl | rfl | rfl | rfl | rfl | rfl<;>simp [jn,CJ,Du]<;>omega
   have e1:CC ⟨on,who,f,d,n,z,c⟩=some false:=by simp [jn,CC,hd',kI]
   rw [e1];have d1:(d==1)=false:=by simp;omega
   have d2:(d==2)=false:=by simp;omega
   have d3:(d==3)=false:=by simp;omega
   have d4:(d==4)=false:=by simp;omega
   have d5:(d==5)=false:=by simp;omega
   have d6:(d==6)=false:=by simp;omega
   have d7:(d==7)=false:=by simp;omega
   have d8:(d==8)=false:=by simp;omega
   rcases ho with rfl | rfl | rfl | rfl | rfl | rfl | rfl<;>simp [jn,RP,Jz,Qh,NN,JB,PF,d1,d2,d3,d4,d5,d6,d7,d8,oC,kI,yu,Vp,SR,bne]<;>split<;>rfl
 ·have hd':CJ on d=some false:=by
   simp only [CJ,Du,jn];iterate 6 rw [if_neg (by simp;omega)]
   rw [if_neg (by simp;omega)]
  have e1:CC ⟨on,who,f,d,n,z,c⟩=some false:=by simp [jn,CC,hd',kI]
  rw [e1];simp only [RP,jn];rw [if_neg (by simp;omega)];obtain⟨b,hb⟩:T (Jz ⟨on,who,f,d,n,z,c⟩):=by unfold Jz;simp only [Option.bind_some,ifQ];exact⟨_,rfl⟩
  simp only [hb,Option.bind_some];refine(congrArg (fun o=>if !b then some false else o) ?_).trans (by cases b<;>rfl) (b:=if !b then some false else some false);iterate 5 rw [if_neg (by simp;omega)]
  unfold NN;rw [if_neg (by simp;omega)]
end Go.PL
