/- Plain laws of states: modifications. -/
import Derived.Test.YteginlijmbcopaaGreatDoorPlCkM
namespace Go.PL
open Go
set_option maxRecDepth 100000
set_option linter.all false
set_option maxHeartbeats 1000000
def zF:Aq:=⟨0,0,0,0,0,0,0,[],0,0,⟨0,0⟩,⟨0,0⟩,⟨0,0⟩⟩
theorem zT (a b c:Int):I1 a b c=some (decide (b<=a)&&decide (a<=c)):=by grind [I1]
theorem gdt {α:Type} [Inhabited α] (o:Option α):gd true o=o:=rfl
theorem gdf {α:Type} [Inhabited α] (o:Option α):gd false o=some default:=rfl
theorem Ae2 (m:B4):T (LR m):=by
 obtain⟨k,n,p,s,f⟩:=m;by_cases hk:1<=k/\k<=14
 ·have:k=1\/k=2\/k=3\/k=4\/k=5\/k=6\/k=7\/k=8\/k=9\/k=10\/k=11\/k=12\/k=13\/k=14:=by omega
  clear hk;rcases this with rfl | rfl | rfl | rfl | rfl | rfl | rfl | rfl | rfl | rfl | rfl | rfl | rfl | rfl
  all_goals
   simp [T,jn,LR,Pv,Np,No,OG,Lh,Lj,Li,Jq,zT,FO,dV,gdB,gdt,gdf,zb,zc,ifN,ifP,Option.getD_some]
 ·have h1:(decide (1<=k)&&decide (k<=14))=false:=by grind
  exact⟨false,by simp [jn,LR,zT,h1,gdf]⟩
end Go.PL
