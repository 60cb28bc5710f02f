/- Plain laws of states: modifications. -/
import Derived.Test.YtelbpfkjhndccaaGreatDoorPlSbM
namespace Go.PL
open Go
set_option maxRecDepth 100000
set_option linter.all false
set_option maxHeartbeats 1000000
def zF:Af:=⟨0,0,0,0,0,0,0,[],0,0,⟨0,0⟩,⟨0,0⟩,⟨0,0⟩⟩
theorem fv (a b c:Int):Je a b c=some (decide (b≤a)&&decide (a≤c)):=by
 unfold Je
 simp only [Option.bind_some,O0]
theorem ia (a:Int):QZ a=some ((decide (1≤a)&&decide (a≤63))&&(Nc .i64 a 6==0)):=by
 unfold QZ
 simp only [Option.bind_some,O0]
theorem dX {α:Type} [Inhabited α] (o:Option α):gd true o=o:=rfl
theorem X0 {α:Type} [Inhabited α] (o:Option α):gd false o=some default:=rfl
theorem Zn (m:Bx):T (IX m)∧Pc m=IX m:=by
 obtain⟨k,n,p,s,f⟩:=m
 by_cases hk:1≤k∧k≤14
 ·have:k=1∨k=2∨k=3∨k=4∨k=5∨k=6∨k=7∨k=8∨k=9∨k=10∨k=11∨k=12∨k=13∨k=14:=by omega
  clear hk
  rcases this with rfl | rfl | rfl | rfl | rfl | rfl | rfl | rfl | rfl | rfl | rfl | rfl | rfl | rfl
  all_goals
   refine⟨?_,?_⟩
   ·simp [T,IX,HB,F5,F4,KW,Dv,C7,E1,Ek,fv,D1,UK,Vh,dX,X0,O0,QA,bM,dT,Option.getD_some]
   ·simp [IX,HB,F5,F4,KW,Dv,C7,E1,Ek,fv,D1,UK,Vh,dX,X0,O0,QA,bM,dT,Option.getD_some,Pc,Rc,Pb,Pa,Y2,IF,G9,NF,MC,ia,NV,Zm]
    try grind
 ·have h1:(decide (1≤k)&&decide (k≤14))=false:=by
   rw [Bool.eq_false_iff];simpa using hk
  have h2:(decide (k<1)||decide (14<k))=true:=by
   simp;omega
  have e1:IX ⟨k,n,p,s,f⟩=some false:=by simp [IX,fv,h1,X0]
  have e2:Pc ⟨k,n,p,s,f⟩=some false:=by simp [Pc,QA,h2,X0]
  rw [e1,e2]
  exact⟨⟨_,rfl⟩,rfl⟩
end Go.PL
