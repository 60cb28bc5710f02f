/- Plain laws of states: filters. -/
import Derived.Test.YteginlijmbcopaaGreatDoorPlCkL
namespace Go.PL
open Go
set_option maxRecDepth 100000
set_option linter.all false
set_option maxHeartbeats 1000000
theorem ltN (a b:Int):decide (a<b)= !decide (b<=a):=by by_cases h:a<b<;>simp [h]<;>omega
theorem nnB (b:Bool):(!(!b))=b:=by cases b<;>rfl
theorem aro (a b:Bool):(a&&(a&&b))=(a&&b):=by cases a<;>rfl
theorem oon (a b:Bool):(a||(!a&&b))=(a||b):=by cases a<;>rfl
theorem Uu (a b:Int):A9 a b=some (decide (0<=a)&&decide (a<=b)):=by unfold A9;simp only [Option.bind_some,zb]
def ia (b:Aj):Bool:=(decide (0<=b.Kind)&&decide (b.Kind<=3))&&((decide (0<=b.N)&&decide (b.N<=1000000))&&(b.Kind != 0||b.N==0))
theorem dW (b:Aj):DB b=some (ia b):=by unfold DB ia;simp only [Option.bind_some,Uu,gdB,zb,zc,bT,aro,oon];simp only [Bool.and_assoc]
theorem oan (a b:Bool):(!a|| !(a&&b))= !(a&&b):=by cases a<;>cases b<;>rfl
def Zx (f:Aq):Bool:=(Ct f).getD false
theorem FO (f:Aq):Ct f=some (Zx f):=by
 have: ∃ b,Ct f=some b:=by unfold Ct;simp only [Option.bind_some,zN,zO,dV,dW,Uu,gdB,zb,zc,ifN,ifP,bT,bF,nnB,aro,oon,oan];exact⟨_,rfl⟩
 obtain⟨b,h⟩:=this;unfold Zx;rw [h];rfl
end Go.PL
