/- Plain laws of states: filters. -/
import Derived.Test.YteginlijmbcopaaGreatDoorPlCkL
namespace Go.PL
open Go
set_option maxRecDepth 100000
set_option linter.all false
set_option maxHeartbeats 1000000
theorem ltN (a b:Int):decide (a<b)= !decide (b<=a):=by by_cases h:a<b<;>simp [h]<;>omega
theorem nnB (b:Bool):(!(!b))=b:=by cases b<;>rfl
theorem ap5 (a b:Bool):(a&&(a&&b))=(a&&b):=by cases a<;>rfl
theorem oon (a b:Bool):(a||(!a&&b))=(a||b):=by cases a<;>rfl
theorem Qz (a b:Int):Ba a b=some (decide (0<=a)&&decide (a<=b)):=by unfold Ba;simp only [Option.bind_some,dc]
def N3 (b:Ac):Bool:=(decide (0<=b.Kind)&&decide (b.Kind<=3))&&((decide (0<=b.N)&&decide (b.N<=1000000))&&(b.Kind != 0||b.N==0))
theorem Wp (b:Ac):Du b=some (N3 b):=by unfold Du N3;simp only [Option.bind_some,Qz,qe,dc,ba,bT,ap5,oon];simp only [Bool.and_assoc]
theorem Ac2 (b:Ac):JJ b=some (N3 b):=by unfold JJ N3;simp only [Option.bind_some,qf,ba,ltN,Bool.not_or,nnB];simp only [Bool.and_assoc]
theorem oan (a b:Bool):(!a|| !(a&&b))= !(a&&b):=by cases a<;>cases b<;>rfl
def Q5 (f:Ag):Bool:=(B0 f).getD false
theorem Cw (f:Ag):B0 f=some (Q5 f):=by
 have: ∃ b,B0 f=some b:=by unfold B0;simp only [Option.bind_some,uH,uI,XK,Wp,Qz,qe,dc,ba,qf,ux,bT,bF,nnB,ap5,oon,oan];exact⟨_,rfl⟩
 obtain⟨b,h⟩:=this;unfold Q5;rw [h];rfl
theorem PW (f:Ag):I2 f=some (Q5 f):=by rw [<-Cw];unfold B0 I2;simp only [Option.bind_some,uH,uI,XK,cU,Wp,Ac2,Qz,qe,dc,ba,qf,ux,bT,bF,nnB,ap5,oon,aan,oan,ltN,Bool.not_or,Bool.not_and,Bool.and_assoc,Bool.or_assoc];generalize pH f.Sub=s;generalize N3 f.Power=p;generalize N3 f.abv=q;generalize N3 f.Value=v;have e1: ∀ x:Int,(x != 0)= !(x==0):=fun x=>rfl;simp only [e1,nnB,Bool.decide_and,Bool.and_assoc];generalize hx:Fn .i64 f.Types f.abw=x;generalize hy:Fn .i64 f.adM f.aaZ=y;congr 1;rw [Bool.eq_iff_iff];simp only [Bool.and_eq_true,Bool.or_eq_true,Bool.not_eq_true',decide_eq_true_eq];constructor<;>(intro h;simp_all)
end Go.PL
