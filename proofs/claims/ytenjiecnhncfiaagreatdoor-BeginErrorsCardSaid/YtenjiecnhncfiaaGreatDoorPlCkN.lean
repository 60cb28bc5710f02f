/- Plain laws of states: modifications. -/
import Derived.Test.YtenjiecnhncfiaaGreatDoorPlCkM
namespace Go.PL
open Go
set_option maxRecDepth 100000
set_option linter.all false
set_option maxHeartbeats 1000000
def zF:Aj:=⟨0,0,0,0,0,0,0,[],0,0,⟨0,0⟩,⟨0,0⟩,⟨0,0⟩⟩
theorem yt (a b c:Int):II a b c=some (decide (b<=a)&&decide (a<=c)):=by unfold II;simp only [Option.bind_some,Vp]
theorem Abk (a:Int):Qc a=some ((decide (1<=a)&&decide (a<=63))&&(Fk .i64 a 6==0)):=by unfold Qc;simp only [Option.bind_some,Vp]
theorem yu {α:Type} [Inhabited α] (o:Option α):gd true o=o:=rfl
theorem kI {α:Type} [Inhabited α] (o:Option α):gd false o=some default:=rfl
theorem nV (m:A1):T (HB m)/\Px m=HB m:=by
 obtain⟨k,n,p,s,f⟩:=m;by_cases hk:1<=k/\k<=14
 ·have:k=1\/k=2\/k=3\/k=4\/k=5\/k=6\/k=7\/k=8\/k=9\/k=10\/k=11\/k=12\/k=13\/k=14:=by omega
  clear hk;rcases this with rfl | rfl | rfl | rfl | rfl | rfl | rfl | rfl | rfl | rfl | rfl | rfl | rfl | rfl
  all_goals
   refine⟨?_,?_⟩
   ·simp [T,jn,HB,Mx,KF,KE,Ml,Iu,Iw,Iv,GH,yt,Ct,Xr,oC,yu,kI,Vp,SR,oD,sK,Option.getD_some]
   ·simp [jn,HB,Mx,KF,KE,Ml,Iu,Iw,Iv,GH,yt,Ct,Xr,oC,yu,kI,Vp,SR,oD,sK,Option.getD_some,Px,gY,cG,cF,bD,Xa,Xc,Xb,TM,Abk,PF,cO]
    try grind
 ·have h1:(decide (1<=k)&&decide (k<=14))=false:=by rw [Bool.eq_false_iff];simpa using hk
  have h2:(decide (k<1)||decide (14<k))=true:=by simp;omega
  have e1:HB ⟨k,n,p,s,f⟩=some false:=by simp [jn,HB,yt,h1,kI]
  have e2:Px ⟨k,n,p,s,f⟩=some false:=by simp [jn,Px,SR,h2,kI]
  rw [e1,e2];exact⟨⟨_,rfl⟩,rfl⟩
end Go.PL
