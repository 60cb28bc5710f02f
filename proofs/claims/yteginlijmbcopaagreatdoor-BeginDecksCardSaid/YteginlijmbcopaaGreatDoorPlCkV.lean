/- Plain laws of states: abilities, objects. -/
import Derived.Test.YteginlijmbcopaaGreatDoorPlCkU
namespace Go.PL
open Go
set_option maxRecDepth 100000
set_option linter.all false
set_option maxHeartbeats 4000000
def zRe:Ay:=⟨0,0,zF,0,0,0,0⟩
theorem wR (a b:AL):Ff a b=some ((a.Filter==b.Filter)&&((a.abn.length:Int)==b.abn.length)&&(a.ac4==b.ac4)&&(a.ah9==b.ah9)&&(a.abb==b.abb)&&(a.May==b.May)&&((a.abd.length:Int)==b.abd.length)&&((a.G_.length:Int)==b.G_.length)&&(a.Replace==b.Replace)):=by unfold Ff;grind
theorem Aam (p:CB): ∃ w,Dj p=some w/\(w != [])=QY p:=by obtain⟨w,h1,h2⟩:=Aah p;grind
def wS (l:List Ft):Bool:=l.all lO
def Aa8 (l:List AA) (n:Int):Bool:=l.all fun e=>Aal e n
def Aa9 (a:AL):Bool:=decide (a.abd.length<=4/\1<=a.G_.length/\a.G_.length<=8)&&(wS a.abd&&Aa8 a.G_ a.abd.length)
theorem j12 (a:AL):He a=some ((a.Kind != 3||QY a.ac4)&&(a.Kind != 4||Aai a.abb)):=by obtain⟨w,h1,h2⟩:=Aam a.ac4;unfold He;grind [Afl,iu]
theorem j5 (a:AL) (p:CB) (s:Bool) (t:BB) (m:Bool):LV a a.Kind zF p s t m zRe=some (((a.Filter==zF)&&(a.abn.length==0)&&(a.ac4==p)&&(a.ah9==s)&&(a.abb==t)&&(a.May==m)&&(a.Replace==zRe))&&(Aa9 a&&((a.Kind != 3||QY a.ac4)&&(a.Kind != 4||Aai a.abb)))):=by
 have e0:((a.abn.length:Int)==(([]:List B4).length :Int))=(a.abn.length==0):=by grind
 simp only [LV,jn];simp only [wR,Option.bind_some,e0,beq_self_eq_true,Bool.and_true,Bool.true_and];generalize (((a.Filter==zF)&&(a.abn.length==0)&&(a.ac4==p)&&(a.ah9==s)&&(a.abb==t)&&(a.May==m))&&(a.Replace==zRe))=q;unfold Aa9;by_cases hl:a.abd.length<=4/\1<=a.G_.length/\a.G_.length<=8
 ·have hb:(if(if(if(!q)=true then true else decide ((4:Int)<(a.abd.length:Int)))=true then true else(a.G_.length:Int)==(0:Int)) then true else decide ((8:Int)<(a.G_.length:Int)))= !q:=by grind
  rw [hb,decide_eq_true hl,Bool.true_and];have h1:=AdB (l:=a.abd) (q:=lO) (K:=KM a) (f:=fun x=>some x) (c:=false) (B:=fun v=>EZ a v) (by omega) (fun i h=>by
   show EZ a (i:Int)=_;unfold EZ;obtain⟨w,w1,w2⟩:=Aag a.abd[i];rw [if_pos (by simpa using h),AD h];simp only [Option.bind_some,w1,w2];exact Afi (by omega)) (by
   simp_all [EZ])
  have h2:=AdB (l:=a.G_) (q:=fun e=>Aal e a.abd.length) (K:=He a) (f:=fun x=>some x) (c:=false) (B:=fun v=>EY a v) (by omega) (fun i h=>by
   show EY a (i:Int)=_;unfold EY;rw [if_pos (by simpa using h),AD h];simp only [Option.bind_some,Afq];exact Afi (by omega)) (by
   simp_all [EY])
  rw [h1];simp only [KM,jn];grind [j12,wS,Aa8]
 grind
def abB (a:AL):Bool:=(H7 a).getD false
def Ahe (a:AL):Prop:=a.abd.length<9223372036854775807/\a.G_.length<9223372036854775807
theorem Ahf (a:AL):T (H7 a):=by have zf:(⟨(0:Int),(0:Int),(0:Int),(0:Int),(0:Int),(0:Int),(0:Int),[],(0:Int),(0:Int),(⟨(0:Int),(0:Int)⟩:Aj),(⟨(0:Int),(0:Int)⟩:Aj),(⟨(0:Int),(0:Int)⟩:Aj)⟩:Aq)=zF:=rfl;have zr:(⟨(0:Int),(0:Int),zF,(0:Int),(0:Int),(0:Int),(0:Int)⟩:Ay)=zRe:=rfl;obtain⟨w,w1,w2,w3⟩:=wO a.abn;simp only [H7,jn];simp only [zf,zr,wR,FO,Afn,w1,iu,Option.bind_some];exact vZ ⟨_,rfl⟩ (vZ ⟨_,rfl⟩ (vZ ⟨_,j5 a _ _ _ _⟩ (vZ ⟨_,j5 a _ _ _ _⟩ (vZ ⟨_,j5 a _ _ _ _⟩ ⟨_,rfl⟩))))
theorem Ahg (a:AL):H7 a=some (abB a):=by obtain⟨b,h⟩:=Ahf a;unfold abB;rw [h];rfl
end Go.PL
