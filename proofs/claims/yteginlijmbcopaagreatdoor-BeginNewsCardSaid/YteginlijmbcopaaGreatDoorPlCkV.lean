/- Plain laws of states: abilities, objects. -/
import Derived.Test.YteginlijmbcopaaGreatDoorPlCkU
namespace Go.PL
open Go
set_option maxRecDepth 100000
set_option linter.all false
set_option maxHeartbeats 4000000
def zPr:BX:=⟨⟨0,0,⟨0,0,0,0,0⟩⟩,false,false,0⟩
def zTr:AY:=⟨0,0,zF⟩
def zRe:Au:=⟨0,0,zF,0,0,0,0⟩
theorem td (a b:AE):E3 a b=some ((a.Filter==b.Filter)&&((a.aap.length:Int)==b.aap.length)&&(a.acb==b.acb)&&(a.ahg==b.ahg)&&(a.aay==b.aay)&&(a.May==b.May)&&((a.aai.length:Int)==b.aai.length)&&((a.n_.length:Int)==b.n_.length)&&(a.Replace==b.Replace)):=by unfold E3;grind
theorem Adv (p:BX): ∃ w,De p=some w/\(w != [])=N4 p:=by obtain⟨w,h1,h2⟩:=Adl p;grind
def lE (l:List Da):Bool:=l.all iN
def uS (l:List Av) (n:Int):Bool:=l.all fun e=>xj e n
def uT (a:AE):Bool:=decide (a.aai.length<=4/\1<=a.n_.length/\a.n_.length<=8)&&(lE a.aai&&uS a.n_ a.aai.length)
theorem j12 (a:AE):Hc a=some ((a.Kind != 3||N4 a.acb)&&(a.Kind != 4||AaI a.aay)):=by obtain⟨w,h1,h2⟩:=Adv a.acb;unfold Hc;grind [Aem,RP]
theorem j5 (a:AE) (p:BX) (s:Bool) (t:AY) (m:Bool):L2 a a.Kind zF p s t m zRe=some (((a.Filter==zF)&&(a.aap.length==0)&&(a.acb==p)&&(a.ahg==s)&&(a.aay==t)&&(a.May==m)&&(a.Replace==zRe))&&(uT a&&((a.Kind != 3||N4 a.acb)&&(a.Kind != 4||AaI a.aay)))):=by
 have e0:((a.aap.length:Int)==(([]:List AZ).length :Int))=(a.aap.length==0):=by grind
 simp only [L2,jn];simp only [td,Option.bind_some,e0,beq_self_eq_true,Bool.and_true,Bool.true_and];generalize (((a.Filter==zF)&&(a.aap.length==0)&&(a.acb==p)&&(a.ahg==s)&&(a.aay==t)&&(a.May==m))&&(a.Replace==zRe))=q;unfold uT;by_cases hl:a.aai.length<=4/\1<=a.n_.length/\a.n_.length<=8
 ·have hb:(if(if(if(!q)=true then true else decide ((4:Int)<(a.aai.length:Int)))=true then true else(a.n_.length:Int)==(0:Int)) then true else decide ((8:Int)<(a.n_.length:Int)))= !q:=by grind
  rw [hb,decide_eq_true hl,Bool.true_and];have h1:=AaF (l:=a.aai) (q:=iN) (K:=KS a) (f:=fun x=>some x) (c:=false) (B:=fun v=>EP a v) (by omega) (fun i h=>by
   show EP a (i:Int)=_;unfold EP;obtain⟨w,w1,w2⟩:=Adj a.aai[i];rw [if_pos (by simpa using h),BU h];simp only [Option.bind_some,w1,w2];exact Adm (by omega)) (by
   simp_all [EP])
  have h2:=AaF (l:=a.n_) (q:=fun e=>xj e a.aai.length) (K:=Hc a) (f:=fun x=>some x) (c:=false) (B:=fun v=>EO a v) (by omega) (fun i h=>by
   show EO a (i:Int)=_;unfold EO;rw [if_pos (by simpa using h),BU h];simp only [Option.bind_some,Aeo];exact Adm (by omega)) (by
   simp_all [EO])
  rw [h1];simp only [KS,jn];grind [j12,lE,uS]
 grind
def abB (a:AE):Bool:=(C0 a).getD false
theorem Adw {l:List Da} (h:l.length<9223372036854775807):Qx l=some (lE l&&decide (l.length<=4)):=by
 simp only [Qx,jn]
 rw [AaF (l:=l) (q:=iN) (B:=fun v=>Hb l v) h (fun i h'=>by
     show Hb l (i:Int)=_;unfold Hb;rw [if_pos (by simpa using h'),BU h'];simp only [Option.bind_some,AaB];exact Adm (by omega)) (by
     simp_all [Hb])]
 unfold UB lE;have:decide ((l.length:Int)<=4)=decide (l.length<=4):=by grind
 grind
theorem AgH {l:List Av} {n:Int} (h:l.length<9223372036854775807):LC l n=some (uS l n&&decide (1<=l.length/\l.length<=8)):=by
 simp only [LC,jn]
 rw [AaF (l:=l) (q:=fun e=>xj e n) (B:=fun v=>EQ l n v) h (fun i h'=>by
     show EQ l n (i:Int)=_;unfold EQ;rw [if_pos (by simpa using h'),BU h'];simp only [Option.bind_some,Aij];exact Adm (by omega)) (by
     simp_all [EQ])]
 unfold PT uS;have:(if(decide ((1:Int)<=(l.length:Int))) then decide ((l.length:Int)<=(8:Int))else false)=decide (1<=l.length/\l.length<=8):=by grind
 grind
def Adx (a:AE):Prop:=a.aai.length<9223372036854775807/\a.n_.length<9223372036854775807
theorem uU (a:AE): ∃ b,C0 a=some b/\(Adx a->L3 a=some b):=by
 have zf:(⟨(0:Int),(0:Int),(0:Int),(0:Int),(0:Int),(0:Int),(0:Int),[],(0:Int),(0:Int),(⟨(0:Int),(0:Int)⟩:Ac),(⟨(0:Int),(0:Int)⟩:Ac),(⟨(0:Int),(0:Int)⟩:Ac)⟩:Ag)=zF:=rfl;have zr:(⟨(0:Int),(0:Int),zF,(0:Int),(0:Int),(0:Int),(0:Int)⟩:Au)=zRe:=rfl;have zt:(⟨(0:Int),(0:Int),zF⟩:AY)=zTr:=rfl;have zp:(⟨(⟨(0:Int),(0:Int),(⟨(0:Int),(0:Int),(0:Int),(0:Int),(0:Int)⟩:A5 (Int))⟩:Az),false,false,(0:Int)⟩:BX)=zPr:=rfl;obtain⟨w,w1,w2,w3⟩:=AaL a.aap;obtain⟨v,v1,v2,v3⟩:=uR a.aap;have e0:((a.aap.length:Int)==(([]:List AZ).length :Int))=(a.aap.length==0):=by grind
 have e1:((a.aai.length:Int)==(([]:List Da).length :Int))=(a.aai.length==0):=by grind
 have e2:((a.n_.length:Int)==(([]:List Av).length :Int))=(a.n_.length==0):=by grind
 have e3:decide ((0:Int)<(a.aap.length:Int))= !(a.aap.length==0):=by grind
 have e4:((a.aai.length:Int)==0)=(a.aai.length==0):=by grind
 have e5:((a.n_.length:Int)==0)=(a.n_.length==0):=by grind
 have e6: ∀ h:Adx a,MR a true=some (uT a):=fun h=>by unfold MR uT;simp only [Adw h.1,AgH h.2,RP,Option.bind_some,if_true];grind
 have e7:MR a false=some ((a.aai.length==0)&&(a.n_.length==0)):=by grind [MR]
 by_cases hk:a.Kind=1\/a.Kind=2\/a.Kind=3\/a.Kind=4\/a.Kind=5
 ·rcases hk with k | k | k | k | k
  ·refine⟨(a.Filter.AT==0&&Q5 a.Filter&&PX a.aap)&&((a.acb==zPr)&&(a.ahg==false)&&(a.aay==zTr)&&(a.May==false)&&(a.aai.length==0)&&(a.n_.length==0)&&(a.Replace==zRe)),?_,fun hl=>?_⟩
   ·simp only [C0,jn];simp only [zf,zr,zt,zp];rw [if_pos (by simpa using k)];simp only [td,Cw,w1,RP,Option.bind_some,e1,e2,beq_self_eq_true,Bool.true_and];grind
   ·simp only [L3,JP,JO,JN,jn];simp only [zf,zr,zt,zp,k];simp only [show decide ((1:Int)<1)=false from rfl,show decide ((5:Int)<1)=false from rfl,show ((1:Int)==2)=false from rfl,show ((1:Int)==3)=false from rfl,show ((1:Int)==4)=false from rfl,show ((1:Int)==5)=false from rfl,show ((1:Int)==1)=true from rfl,Option.bind_some,if_true,if_false,Bool.false_eq_true,PW,v1,RP,e7];grind
  ·refine⟨_,by simp only [C0,jn,zf,zr,zt,zp];rw [if_neg (by simp [k]),if_neg (by simp [k]),if_pos (by simp [k]),j5],fun hl=>?_⟩;simp only [L3,JP,JO,JN,jn];simp only [zf,zr,zt,zp,k];simp only [show decide ((2:Int)<1)=false from rfl,show decide ((5:Int)<2)=false from rfl,show ((2:Int)==2)=true from rfl,show ((2:Int)==3)=false from rfl,show ((2:Int)==4)=false from rfl,show ((2:Int)==5)=false from rfl,show ((2:Int)==1)=false from rfl,Option.bind_some,if_true,if_false,Bool.false_eq_true,e3,e6 hl,bne,Bool.not_false,Bool.true_or];grind
  ·refine⟨_,by simp only [C0,jn,zf,zr,zt,zp];rw [if_neg (by simp [k]),if_neg (by simp [k]),if_neg (by simp [k]),if_pos (by simp [k]),j5],fun hl=>?_⟩;simp only [L3,JP,JO,JN,jn];simp only [zf,zr,zt,zp,k];simp only [show decide ((3:Int)<1)=false from rfl,show decide ((5:Int)<3)=false from rfl,show ((3:Int)==2)=false from rfl,show ((3:Int)==3)=true from rfl,show ((3:Int)==4)=false from rfl,show ((3:Int)==5)=false from rfl,show ((3:Int)==1)=false from rfl,Option.bind_some,if_true,if_false,Bool.false_eq_true,e3,e6 hl,bne,Bool.not_false,Bool.not_true,Bool.true_or,Bool.false_or,Adk,beq_self_eq_true];grind
  ·refine⟨_,by simp only [C0,jn,zf,zr,zt,zp];rw [if_neg (by simp [k]),if_neg (by simp [k]),if_neg (by simp [k]),if_neg (by simp [k]),if_pos (by simp [k]),j5],fun hl=>?_⟩;simp only [L3,JP,JO,JN,jn];simp only [zf,zr,zt,zp,k];simp only [show decide ((4:Int)<1)=false from rfl,show decide ((5:Int)<4)=false from rfl,show ((4:Int)==2)=false from rfl,show ((4:Int)==3)=false from rfl,show ((4:Int)==4)=true from rfl,show ((4:Int)==5)=false from rfl,show ((4:Int)==1)=false from rfl,Option.bind_some,if_true,if_false,Bool.false_eq_true,e3,e6 hl,bne,Bool.not_false,Bool.not_true,Bool.true_or,Bool.false_or,Aih,beq_self_eq_true];grind
  ·refine⟨Adr a.Replace&&((a.Filter==zF)&&(a.aap.length==0)&&(a.acb==zPr)&&(a.ahg==false)&&(a.aay==zTr)&&(a.May==false)&&(a.aai.length==0)&&(a.n_.length==0)),?_,fun hl=>?_⟩
   ·simp only [C0,jn];simp only [zf,zr,zt,zp];rw [if_neg (by simp [k]),if_pos (by simpa using k)];simp only [td,Aen,RP,Option.bind_some,e0,e1,e2,beq_self_eq_true,Bool.and_true];grind
   ·simp only [L3,JP,JO,JN,jn];simp only [zf,zr,zt,zp,k];simp only [show decide ((5:Int)<1)=false from rfl,show decide ((5:Int)<5)=false from rfl,show ((5:Int)==2)=false from rfl,show ((5:Int)==3)=false from rfl,show ((5:Int)==4)=false from rfl,show ((5:Int)==5)=true from rfl,show ((5:Int)==1)=false from rfl,Option.bind_some,if_true,if_false,Bool.false_eq_true,e3,e7,bne,Bool.not_false,Bool.not_true,Aii];grind
 ·have k1:(a.Kind==1)=false:=by simp;omega
  have k2:(a.Kind==2)=false:=by simp;omega
  have k3:(a.Kind==3)=false:=by simp;omega
  have k4:(a.Kind==4)=false:=by simp;omega
  have k5:(a.Kind==5)=false:=by simp;omega
  refine⟨false,?_,fun hl=>?_⟩
  ·simp_all [C0,jn]
  ·simp only [L3,jn];grind
theorem Ail (a:AE):C0 a=some (abB a):=by obtain⟨b,h, -⟩:=uU a;unfold abB;rw [h];rfl
theorem Aim {a:AE} (hl:Adx a):L3 a=some (abB a):=by obtain⟨b,h,h'⟩:=uU a;rw [h' hl, <-h,Ail]
end Go.PL
