/- Plain laws of states: filters. -/
import Derived.Test.YtenjiecnhncfiaaGreatDoorPlCkL
namespace Go.PL
open Go
set_option maxRecDepth 100000
set_option linter.all false
set_option maxHeartbeats 1000000
theorem ltN (a b:Int):decide (a<b)= !decide (b<=a):=by by_cases h:a<b<;>simp [h]<;>omega
theorem nnB (b:Bool):(!(!b))=b:=by cases b<;>rfl
theorem aoU (a b:Bool):(a&&(a&&b))=(a&&b):=by cases a<;>rfl
theorem oon (a b:Bool):(a||(!a&&b))=(a||b):=by cases a<;>rfl
theorem Qj (a b:Int):Bb a b=some (decide (0<=a)&&decide (a<=b)):=by unfold Bb;simp only [Option.bind_some,Vp]
def NP (b:Af):Bool:=(decide (0<=b.Kind)&&decide (b.Kind<=3))&&((decide (0<=b.N)&&decide (b.N<=1000000))&&(b.Kind != 0||b.N==0))
theorem V9 (b:Af):Dw b=some (NP b):=by unfold Dw NP;simp only [Option.bind_some,Qj,oC,Vp,SR,bT,aoU,oon];simp only [Bool.and_assoc]
theorem Abj (b:Af):Jy b=some (NP b):=by unfold Jy NP;simp only [Option.bind_some,oD,SR,ltN,Bool.not_or,nnB];simp only [Bool.and_assoc]
theorem oan (a b:Bool):(!a|| !(a&&b))= !(a&&b):=by cases a<;>cases b<;>rfl
def Lo (f:Aj):Bool:=(BX f).getD false
theorem Ct (f:Aj):BX f=some (Lo f):=by
 have: ∃ b,BX f=some b:=by unfold BX;simp only [Option.bind_some,sS,sT,Xr,V9,Qj,oC,Vp,SR,oD,sK,bT,bF,nnB,aoU,oon,oan];exact⟨_,rfl⟩
 obtain⟨b,h⟩:=this;unfold Lo;rw [h];rfl
theorem PF (f:Aj):IQ f=some (Lo f):=by rw [<-Ct];unfold BX IQ;simp only [Option.bind_some,sS,sT,Xr,cO,V9,Abj,Qj,oC,Vp,SR,oD,sK,bT,bF,nnB,aoU,oon,aan,oan,ltN,Bool.not_or,Bool.not_and,Bool.and_assoc,Bool.or_assoc];generalize V8 f.Sub=s;generalize NP f.Power=p;generalize NP f.v_=q;generalize NP f.Value=v;have e1: ∀ x:Int,(x != 0)= !(x==0):=fun x=>rfl;simp only [e1,nnB,Bool.decide_and,Bool.and_assoc];generalize hx:Fk .i64 f.Types f.w_=x;generalize hy:Fk .i64 f.Tj f.r_=y;congr 1;rw [Bool.eq_iff_iff];simp only [Bool.and_eq_true,Bool.or_eq_true,Bool.not_eq_true',decide_eq_true_eq];constructor<;>(intro h;simp_all)
end Go.PL
