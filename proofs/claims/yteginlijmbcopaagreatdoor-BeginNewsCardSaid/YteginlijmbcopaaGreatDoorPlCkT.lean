/- Plain laws of states: amounts, references, triggers, replacements. -/
import Derived.Test.YteginlijmbcopaaGreatDoorPlCkS
namespace Go.PL
open Go
set_option maxRecDepth 100000
set_option linter.all false
set_option maxHeartbeats 4000000
def cnB (c:Int):Bool:=decide (0<=c)&&decide (c<=2)
theorem uQ (c:Int): ∃ w,E4 c=some w/\(w==[])= !cnB c/\(w != [])=cnB c:=by
 unfold cnB;by_cases h:0<=c/\c<=2
 ·have:c=0\/c=1\/c=2:=by omega
  rcases this with rfl | rfl | rfl<;>exact⟨_,rfl,rfl,rfl⟩
 ·have e:(if decide (c<0) then true else decide (3<=c))=true:=by grind
  have e2:(decide (0<=c)&&decide (c<=2))=false:=by grind
  unfold E4;simp only [Option.bind_some];rw [if_pos e,e2];grind
theorem AaD (c:Int): ∃ w,Pt c=some w/\(w==[])= !cnB c/\(w != [])=cnB c:=by
 unfold cnB;by_cases h:0<=c/\c<=2
 ·have:c=0\/c=1\/c=2:=by omega
  rcases this with rfl | rfl | rfl<;>exact⟨_,rfl,rfl,rfl⟩
 ·have e2:(decide (0<=c)&&decide (c<=2))=false:=by grind
  unfold Pt;rw [if_neg (by simp;omega),if_neg (by simp;omega),if_neg (by simp;omega),e2];grind
theorem eqv {v:List UInt8} {b:Bool} (h:(v==[])= !b):(v=[])=(b=false):=by grind
theorem Aib:Q5 zF=true:=by
 have:B0 zF=some true:=by kernel_rfl
 grind [Cw]
theorem Aic (j n:Int) (f:Ag):((⟨j,n,0,f⟩:AW)==⟨j,0,0,zF⟩)=decide (n=0/\f=zF):=by grind
theorem pM (m:AW):T (D3 m)/\R9 m=D3 m:=by
 obtain⟨k,n,c,f⟩:=m;obtain⟨w,h1,h2,h3⟩:=uQ c;obtain⟨v,k1,k2,k3⟩:=AaD c;by_cases hk:0<=k/\k<=7
 ·have:k=0\/k=1\/k=2\/k=3\/k=4\/k=5\/k=6\/k=7:=by omega
  clear hk;rcases this with rfl | rfl | rfl | rfl | rfl | rfl | rfl | rfl
  all_goals
   refine⟨?_,?_⟩
   ·simp [jn,T,D3,Lu,KF,KG,h1,Cw,qe,gdt,lY,dc,ba,qf,ux,ifQ]
   ·simp [jn,D3,Lu,KF,KG,h1,h2,h3,Cw,qe,gdt,lY,dc,ba,qf,ux,R9,Wg,k1,eqv k2,k3,PW];grind [Aic,zF]
 ·have h:(decide (k<0)||decide (7<k))=true:=by simp;omega
  have e1:D3 ⟨k,n,c,f⟩=some false:=by simp [jn,D3,ba,h,lY]
  have e2:(decide (0<=k)&&decide (k<=7))=false:=by grind
  have e3:R9 ⟨k,n,c,f⟩=some false:=by simp only [R9,jn];rw [if_neg (by simp;omega),if_neg (by simp;omega),if_neg (by simp;omega)];simp [jn,Wg,dc,e2]
  grind
theorem Aeh (m:HF) (s:Int):T (KP m s):=by
 have hJ: ∀ x y,T (Qv m s x y):=fun x y=>by unfold Qv;simp only [Option.bind_some,Cw,qf,ifQ];grind
 simp only [KP,NS,R6,jn]
 repeat' (first | exact hJ _ _ | exact⟨_,rfl⟩ | refine Tif ?_ ?_)
theorem AaE (m:HF) (s:Int):T (KP m s)/\Wf m s=KP m s:=by
 refine⟨Aeh m s,?_⟩;obtain⟨k,n,f⟩:=m;by_cases hk:1<=k/\k<=8
 ·have:k=1\/k=2\/k=3\/k=4\/k=5\/k=6\/k=7\/k=8:=by omega
  clear hk;have hs: ∀ g:Int->Option Bool,(if decide (4<s) then g 4 else g s)=g (if 4<s then 4 else s):=(by grind);rcases this with rfl | rfl | rfl | rfl | rfl | rfl | rfl | rfl
  all_goals
   ·simp only [Wf,jn];rw [hs];simp [jn,KP,Qv,R6,NS,Cw,qe,gdt,lY,dc,ba,qf,ux,We,iJ,NI,PW]
    try grind
 ·have e1:KP ⟨k,n,f⟩ s=some false:=by simp only [KP,jn];rw [if_neg (by simp;omega),if_neg (by simp;omega),if_neg (by simp;omega),if_neg (by simp;omega)];unfold NS;grind
  grind [Wf,jn,We]
theorem Aei (w:Int): ∃ t,DP w=some t/\(t==[])= !(decide (0<=w)&&decide (w<=2)):=by
 by_cases h:0<=w/\w<=2
 ·have:w=0\/w=1\/w=2:=by omega
  rcases this with rfl | rfl | rfl<;>exact⟨_,rfl,rfl⟩
 ·have e2:(decide (0<=w)&&decide (w<=2))=false:=by grind
  unfold DP;rw [if_neg (by simp;omega),if_neg (by simp;omega),if_neg (by simp;omega),e2];grind
theorem Aid (m:AY):T (CF m):=by
 obtain⟨w,h1, -⟩:=Aei m.Who;have hJ: ∀ x z,T (Ib m x z):=fun x z=>by unfold Ib;simp only [Option.bind_some,Cw,ifQ];grind
 have hu:T (DL m.aiq):=by
  simp only [DL,FJ,FK,jn]
  repeat' (first | exact⟨_,rfl⟩ | refine Tif ?_ ?_)
 obtain⟨u,hu⟩:=hu;simp only [CF,jn];simp only [Option.bind_some,hu,h1,RP]
 repeat' (first | exact hJ _ _ | exact⟨_,rfl⟩ | refine Tif ?_ ?_)
theorem AgE (m:AY):PQ m=CF m:=by
 obtain⟨k,n,f⟩:=m;by_cases hk:1<=k/\k<=14
 ·have:k=1\/k=2\/k=3\/k=4\/k=5\/k=6\/k=7\/k=8\/k=9\/k=10\/k=11\/k=12\/k=13\/k=14:=by omega
  clear hk;by_cases hn:0<=n/\n<=2
  ·have hn:n=0\/n=1\/n=2:=by omega
   rcases this with rfl | rfl | rfl | rfl | rfl | rfl | rfl | rfl | rfl | rfl | rfl | rfl | rfl | rfl<;>rcases hn with rfl | rfl | rfl
   all_goals
    simp [jn,CF,Ib,DL,FJ,FK,DP,YJ,uE,QS,Cw,qe,gdt,lY,dc,ba,qf,ux,PQ,cP,ID,KJ,LV,PW,bj,bl,oA,Xr,bm,iq,ir,iu,iv,bn,uF,iw,iy,bp]
  ·obtain⟨w,h1,h2⟩:=Aei n;rw [show (decide (0<=n)&&decide (n<=2))=false by rw [Bool.eq_false_iff];simpa using hn]at h2;obtain rfl:w=[]:=beq_iff_eq.1 h2;have n0:(n==0)=false:=by simp;omega
   have n1:(n != 0)=true:=by simp;omega
   have n2:(decide (n<0)||decide (2<n))=true:=by simp;omega
   have n3: ∀ y,(decide (n<0)||(decide (2<n)||y))=true:=(by grind);have e1:PQ ⟨k,n,f⟩=some false:=by
    simp only [PQ,jn];obtain⟨x,hx⟩:T (ID k):=by
     unfold ID
     repeat' (first | exact⟨_,rfl⟩ | refine Tif ?_ ?_)
    simp only [hx,Option.bind_some,ba,Bool.or_assoc,n3,Bool.or_true,KJ,RP,if_true,Bool.true_or]
   have e2:CF ⟨k,n,f⟩=some false:=by
    obtain⟨u,hu⟩:T (DL k):=by
     simp only [DL,FJ,FK,jn]
     repeat' (first | exact⟨_,rfl⟩ | refine Tif ?_ ?_)
    simp only [CF,jn];simp only [hu,h1,Option.bind_some,ba,dc,RP,n1,Bool.and_true];grind
   rw [e1,e2]
 ·have h:(decide (k<1)||decide (14<k))=true:=by simp;omega
  have e1:CF ⟨k,n,f⟩=some false:=by simp [jn,CF,ba,h]
  have e0:ID k=some []:=by unfold ID;iterate 14 rw [if_neg (by simp;omega)]
  grind [PQ,lY]
theorem Aie (m:Au):T (CD m):=by
 obtain⟨w,h1, -, -⟩:=uQ m.r_;have hJ: ∀ x,T (G7 m x):=fun x=>by unfold G7;simp only [Option.bind_some,h1,RP,ifQ];grind
 obtain⟨d,hd⟩:T (CO m.On m.Do):=by
  simp only [CO,Dr,jn];simp only [Option.bind_some]
  repeat' (first | exact⟨_,rfl⟩ | refine Tif ?_ ?_)
 obtain⟨n,hn⟩:T (EC m):=by
  simp only [EC,GP,GO,GN,GM,FY,GK,jn];simp only [Option.bind_some]
  repeat' (first | exact⟨_,rfl⟩ | refine Tif ?_ ?_)
 simp only [CD,jn];simp only [Option.bind_some,hd,hn,Cw,RP];grind
theorem AgF (m:Au):Sa m=CD m:=by
 obtain⟨on,who,f,d,n,z,c⟩:=m;obtain⟨w,h1,h2,h3⟩:=uQ c;have g7: ∀ g,((gd g (some w)).bind fun r16=>some (g&&r16 != []))=some (g&&cnB c):=fun g=>by cases g<;>simp [gdt,lY,h3]
 have hz:=Aib;unfold zF at hz;by_cases ho:on=1\/on=2\/on=3\/on=4\/on=5\/on=8\/on=10
 ·by_cases hd:d=1\/d=2\/d=3\/d=4\/d=5\/d=6\/d=7\/d=8
  ·rcases ho with rfl | rfl | rfl | rfl | rfl | rfl | rfl<;>rcases hd with rfl | rfl | rfl | rfl | rfl | rfl | rfl | rfl
   all_goals
    simp [jn,CD,G7,CO,Dr,EC,GP,GO,GN,GM,FY,GK,h1,h3,g7,cnB,qe,gdt,lY,dc,ba,qf,ux,Cw,Sa,JK,Qw,NZ,JM,PW]
    try first | (grind;done) | (by_cases q2:z=0<;>by_cases q3:c=0<;>by_cases q4:f=⟨0,0,0,0,0,0,0,[],0,0,⟨0,0⟩,⟨0,0⟩,⟨0,0⟩⟩<;>rcases (show who=0\/who=1\/who=2\/who<0\/2<who by omega)with rfl | rfl | rfl | hw | hw<;>simp [q2,q3,q4,AjI,hz]<;>(try grind)<;>simp [show ¬who=0 by omega,show ¬who=1 by omega,show ¬who=2 by omega,hw])
  ·have hd':CO on d=some false:=by rcases ho with rfl | rfl | rfl | rfl | rfl | rfl | rfl<;>simp [jn,CO,Dr]<;>omega
   have e1:CD ⟨on,who,f,d,n,z,c⟩=some false:=by simp [jn,CD,hd',lY]
   rw [e1];have d1:(d==1)=false:=by simp;omega
   have d2:(d==2)=false:=by simp;omega
   have d3:(d==3)=false:=by simp;omega
   have d4:(d==4)=false:=by simp;omega
   have d5:(d==5)=false:=by simp;omega
   have d6:(d==6)=false:=by simp;omega
   have d7:(d==7)=false:=by simp;omega
   have d8:(d==8)=false:=by simp;omega
   rcases ho with rfl | rfl | rfl | rfl | rfl | rfl | rfl<;>simp [jn,Sa,JK,Qw,NZ,JM,PW,d1,d2,d3,d4,d5,d6,d7,d8,qe,lY,gdt,dc,ba,bne]<;>split<;>rfl
 ·have hd':CO on d=some false:=by simp_all [CO,Dr,jn]
  have e1:CD ⟨on,who,f,d,n,z,c⟩=some false:=by simp [jn,CD,hd',lY]
  rw [e1];simp only [Sa,jn];rw [if_neg (by simp;omega)];obtain⟨b,hb⟩:T (JK ⟨on,who,f,d,n,z,c⟩):=by unfold JK;grind
  simp_all [NZ]
end Go.PL
