/- Plain laws of states: modifications. -/
import Derived.Test.YtelbpfkjhndccaaGreatDoorPlSbM
namespace Go.PL
open Go
set_option maxRecDepth 100000
set_option linter.all false
set_option maxHeartbeats 1000000
def zF:Ag:=⟨0,0,0,0,0,0,0,[],0,0,⟨0,0⟩,⟨0,0⟩,⟨0,0⟩⟩
theorem me (a b c:Int):K1 a b c=some (decide (b≤a)&&decide (a≤c)):=by
 unfold K1
 simp only [Option.bind_some,Ph]
theorem ob (a:Int):OQ a=some ((decide (1≤a)&&decide (a≤63))&&(PS .i64 a 6==0)):=by
 unfold OQ
 simp only [Option.bind_some,Ph]
theorem ii {α:Type} [Inhabited α] (o:Option α):gd true o=o:=rfl
theorem Z9 {α:Type} [Inhabited α] (o:Option α):gd false o=some default:=rfl
theorem da (m:Bq):T (KA m)∧PB m=KA m:=by
 obtain⟨k,n,p,s,f⟩:=m
 by_cases hk:1≤k∧k≤14
 ·have:k=1∨k=2∨k=3∨k=4∨k=5∨k=6∨k=7∨k=8∨k=9∨k=10∨k=11∨k=12∨k=13∨k=14:=by omega
  clear hk
  rcases this with rfl | rfl | rfl | rfl | rfl | rfl | rfl | rfl | rfl | rfl | rfl | rfl | rfl | rfl
  all_goals
   refine⟨?_,?_⟩
   ·simp [T,KA,IB,G1,G0,No,DF,Di,Fv,EC,me,Ed,W5,Sd,ii,Z9,Ph,PP,aq,ku,Option.getD_some]
   ·simp [KA,IB,G1,G0,No,DF,Di,Fv,EC,me,Ed,W5,Sd,ii,Z9,Ph,PP,aq,ku,Option.getD_some,PB,MP,Le,Ld,SV,Fz,EG,J0,Ir,ob,QN,c9]
    try grind
 ·have h1:(decide (1≤k)&&decide (k≤14))=false:=by
   rw [Bool.eq_false_iff];simpa using hk
  have h2:(decide (k<1)||decide (14<k))=true:=by
   simp;omega
  have e1:KA ⟨k,n,p,s,f⟩=some false:=by simp [KA,me,h1,Z9]
  have e2:PB ⟨k,n,p,s,f⟩=some false:=by simp [PB,PP,h2,Z9]
  rw [e1,e2]
  exact⟨⟨_,rfl⟩,rfl⟩
end Go.PL
