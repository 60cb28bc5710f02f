/- Plain laws of states: modifications. -/
import Derived.Test.YteginlijmbcopaaGreatDoorPlCkM
namespace Go.PL
open Go
set_option maxRecDepth 100000
set_option linter.all false
set_option maxHeartbeats 1000000
def zF:Ag:=⟨0,0,0,0,0,0,0,[],0,0,⟨0,0⟩,⟨0,0⟩,⟨0,0⟩⟩
theorem Aaj (a b c:Int):IU a b c=some (decide (b<=a)&&decide (a<=c)):=by unfold IU;simp only [Option.bind_some,dc]
theorem Ac3 (a:Int):Qq a=some ((decide (1<=a)&&decide (a<=63))&&(Fn .i64 a 6==0)):=by unfold Qq;simp only [Option.bind_some,dc]
theorem gdt {α:Type} [Inhabited α] (o:Option α):gd true o=o:=rfl
theorem lY {α:Type} [Inhabited α] (o:Option α):gd false o=some default:=rfl
theorem pI (m:AZ):T (HM m)/\PO m=HM m:=by
 obtain⟨k,n,p,s,f⟩:=m;by_cases hk:1<=k/\k<=14
 ·have:k=1\/k=2\/k=3\/k=4\/k=5\/k=6\/k=7\/k=8\/k=9\/k=10\/k=11\/k=12\/k=13\/k=14:=by omega
  clear hk;rcases this with rfl | rfl | rfl | rfl | rfl | rfl | rfl | rfl | rfl | rfl | rfl | rfl | rfl | rfl
  all_goals
   refine⟨?_,?_⟩
   ·simp [T,jn,HM,MM,KO,KN,MA,IA,IC,IB,GJ,Aaj,Cw,XK,qe,gdt,lY,dc,ba,qf,ux,Option.getD_some]
   ·simp [jn,HM,MM,KO,KN,MA,IA,IC,IB,GJ,Aaj,Cw,XK,qe,gdt,lY,dc,ba,qf,ux,Option.getD_some,PO,iI,cO,cN,bK,Xt,Xv,Xu,T1,Ac3,PW,cU]
    try grind
 ·have h1:(decide (1<=k)&&decide (k<=14))=false:=by rw [Bool.eq_false_iff];simpa using hk
  have h2:(decide (k<1)||decide (14<k))=true:=by simp;omega
  have e1:HM ⟨k,n,p,s,f⟩=some false:=by simp [jn,HM,Aaj,h1,lY]
  have e2:PO ⟨k,n,p,s,f⟩=some false:=by simp [jn,PO,ba,h2,lY]
  rw [e1,e2];exact⟨⟨_,rfl⟩,rfl⟩
end Go.PL
