/- Plain laws of states: filters. -/
import Derived.Test.YtelbpfkjhndccaaGreatDoorPlSbL
namespace Go.PL
open Go
set_option maxRecDepth 100000
set_option linter.all false
set_option maxHeartbeats 1000000
theorem s8 (a b:Int):decide (a<b)= !decide (b≤a):=by by_cases h:a<b<;>simp [h]<;>omega
theorem ta (b:Bool):(!(!b))=b:=by cases b<;>rfl
theorem aas' (a b:Bool):(a&&(a&&b))=(a&&b):=by cases a<;>rfl
theorem ue (a b:Bool):(a||(!a&&b))=(a||b):=by cases a<;>rfl
theorem Rb (a b:Int):BJ a b=some (decide (0≤a)&&decide (a≤b)):=by
 unfold BJ
 simp only [Option.bind_some,Ph]
def PD (b:Ac):Bool:=(decide (0≤b.Kind)&&decide (b.Kind≤3))&&((decide (0≤b.N)&&decide (b.N≤1000000))&&(b.Kind != 0||b.N==0))
theorem T6 (b:Ac):E5 b=some (PD b):=by
 unfold E5 PD
 simp only [Option.bind_some,Rb,Sd,Ph,PP,bT,aas',ue]
 simp only [Bool.and_assoc]
theorem oa (b:Ac):K4 b=some (PD b):=by
 unfold K4 PD
 simp only [Option.bind_some,aq,PP,s8,Bool.not_or,ta]
 simp only [Bool.and_assoc]
theorem se (a b:Bool):(!a|| !(a&&b))= !(a&&b):=by cases a<;>cases b<;>rfl
def N1 (f:Ag):Bool:=(C4 f).getD false
theorem Ed (f:Ag):C4 f=some (N1 f):=by
 have: ∃ b,C4 f=some b:=by
  unfold C4
  simp only [Option.bind_some,ib,ic,W5,T6,Rb,Sd,Ph,PP,aq,ku,bT,bF,ta,aas',ue,se]
  exact⟨_,rfl⟩
 obtain⟨b,h⟩:=this
 unfold N1;rw [h];rfl
theorem QN (f:Ag):Lc f=some (N1 f):=by
 rw [←Ed]
 unfold C4 Lc
 simp only [Option.bind_some,ib,ic,W5,c9,T6,oa,Rb,Sd,Ph,PP,aq,ku,bT,bF,ta,aas',ue,uZ,se,s8,Bool.not_or,Bool.not_and,Bool.and_assoc,Bool.or_assoc]
 generalize c8 f.Sub=s
 generalize PD f.Power=p
 generalize PD f.Tough=q
 generalize PD f.Value=v
 have e1: ∀ x:Int,(x != 0)= !(x==0):=fun x=>rfl
 simp only [e1,ta,Bool.decide_and,Bool.and_assoc]
 generalize hx:PS .i64 f.Types f.NotTypes=x
 generalize hy:PS .i64 f.Colors f.NotColors=y
 congr 1
 rw [Bool.eq_iff_iff]
 simp only [Bool.and_eq_true,Bool.or_eq_true,Bool.not_eq_true',decide_eq_true_eq]
 constructor<;>(intro h;simp_all)
end Go.PL
