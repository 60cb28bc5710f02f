/- Plain laws of states: filters. -/
import Derived.Test.YtelbpfkjhndccaaGreatDoorPlSbL
namespace Go.PL
open Go
set_option maxRecDepth 100000
set_option linter.all false
set_option maxHeartbeats 1000000
theorem oo (a b:Int):decide (a<b)= !decide (b≤a):=by by_cases h:a<b<;>simp [h]<;>omega
theorem mZ (b:Bool):(!(!b))=b:=by cases b<;>rfl
theorem aas' (a b:Bool):(a&&(a&&b))=(a&&b):=by cases a<;>rfl
theorem oq (a b:Bool):(a||(!a&&b))=(a||b):=by cases a<;>rfl
theorem Oj (a b:Int):BE a b=some (decide (0≤a)&&decide (a≤b)):=by
 unfold BE
 simp only [Option.bind_some,O0]
def MX (b:Ae):Bool:=(decide (0≤b.Kind)&&decide (b.Kind≤3))&&((decide (0≤b.N)&&decide (b.N≤1000000))&&(b.Kind != 0||b.N==0))
theorem Ro (b:Ae):EG b=some (MX b):=by
 unfold EG MX
 simp only [Option.bind_some,Oj,Vh,O0,QA,bT,aas',oq]
 simp only [Bool.and_assoc]
theorem hZ (b:Ae):L3 b=some (MX b):=by
 unfold L3 MX
 simp only [Option.bind_some,bM,QA,oo,Bool.not_or,mZ]
 simp only [Bool.and_assoc]
theorem oP (a b:Bool):(!a|| !(a&&b))= !(a&&b):=by cases a<;>cases b<;>rfl
def Lu (f:Af):Bool:=(CR f).getD false
theorem D1 (f:Af):CR f=some (Lu f):=by
 have: ∃ b,CR f=some b:=by
  unfold CR
  simp only [Option.bind_some,cd,ce,UK,Ro,Oj,Vh,O0,QA,bM,dT,bT,bF,mZ,aas',oq,oP]
  exact⟨_,rfl⟩
 obtain⟨b,h⟩:=this
 unfold Lu;rw [h];rfl
theorem NV (f:Af):K3 f=some (Lu f):=by
 rw [←D1]
 unfold CR K3
 simp only [Option.bind_some,cd,ce,UK,Zm,Ro,hZ,Oj,Vh,O0,QA,bM,dT,bT,bF,mZ,aas',oq,pq,oP,oo,Bool.not_or,Bool.not_and,Bool.and_assoc,Bool.or_assoc]
 generalize Zl f.Sub=s
 generalize MX f.Power=p
 generalize MX f.Tough=q
 generalize MX f.Value=v
 have e1: ∀ x:Int,(x != 0)= !(x==0):=fun x=>rfl
 simp only [e1,mZ,Bool.decide_and,Bool.and_assoc]
 generalize hx:Nc .i64 f.Types f.NotTypes=x
 generalize hy:Nc .i64 f.Colors f.NotColors=y
 congr 1
 rw [Bool.eq_iff_iff]
 simp only [Bool.and_eq_true,Bool.or_eq_true,Bool.not_eq_true',decide_eq_true_eq]
 constructor<;>(intro h;simp_all)
end Go.PL
