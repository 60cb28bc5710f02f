/- Plain laws of states: StateIs. -/
import Derived.Test.YtelbpfkjhndccaaGreatDoorPlScb
namespace Go.PL
open Go
set_option maxRecDepth 100000
set_option linter.all false
set_option maxHeartbeats 4000000
theorem ZF {M:Nat}: ∀ (l:List Au) (n:Nat),(∀ p∈l,p.Library.length≤M∧p.Hand.length≤M∧p.Graveyard.length≤M)→(NY Au.Library Au.Hand Au.Graveyard n l).length ≤3*M*l.length
 | [],_,_=>by simp [NY]
 | p::l,n,h=>by
   have ih:=ZF l (n+1) (fun q hq=>h q (by simp [hq]))
   have:=h p (by simp)
   unfold NY
   simp only [List.length_append,List.length_cons]
   rw [Nat.mul_add]
   omega
theorem ed {α:Type} {b:Nat} {ok:α→Prop} {l:List α} (h:OE b ok l):l.length*b≤140737488351232:=by
 have:=h.1
 unfold reachBytes at this
 exact this
theorem jO {a:AN} (h:Hf a):gb a:=by
 unfold Hf at h
 exact⟨Lf h.2.2.2.2.2.2.2.1,Lf h.2.2.2.2.2.2.2.2.1⟩
theorem pi {p:Au} (h:L9 p):p.Library.length*8≤140737488351232∧p.Hand.length*8≤140737488351232∧p.Graveyard.length*8≤140737488351232:=by
 unfold L9 at h
 exact⟨ed h.2.2.2.2.2.2.1,ed h.2.2.2.2.2.2.2.1,ed h.2.2.2.2.2.2.2.2.1⟩
theorem lP {s:Aj} (ho:K7 s):Sy s:=by
 unfold K7 at ho
 obtain⟨hp,hob,hb,he,hk,hw,hc, -, -, -, -, -, -, -, -, -,hx, -, -, -⟩:=ho
 have b0:=ed hp
 have b1:=ed hob
 have b2:=ed hb
 have b3:=ed he
 have b4:=ed hk
 have b5:=ed hw
 have b6:=ed hc
 have b7:=ed hx
 have q: ∀ x∈s.Players,x.Library.length*8≤140737488351232∧x.Hand.length*8≤140737488351232∧x.Graveyard.length*8≤140737488351232:=fun x hx=>pi (hp.2 x hx)
 refine⟨⟨by omega,by omega,by omega,by omega,fun x hx=>?_,by omega,by omega,by omega,by omega,fun h4=>?_,fun x hx=>?_,fun x hx=>?_,fun x hx=>?_⟩,by omega,by omega,fun x hx=>?_⟩
 ·have:=q x hx;omega
 ·unfold JU ZE
  have h1:=ZF (M:=17592186043904) s.Players 0 (fun p hp=>by have:=q p hp;omega)
  have h2:=iS s.Stack
  have h3:3*17592186043904*s.Players.length≤3*17592186043904*4:=Nat.mul_le_mul_left _ h4
  simp only [List.length_append]
  omega
 ·have:=hk.2 x hx
  unfold M0 at this
  exact jO this.2.2.2.2.2.2.1
 ·have:=hw.2 x hx
  unfold K6 at this
  exact jO this.2.2.1
 ·have:=hc.2 x hx
  unfold Qs at this
  have:=ed this.2.2.2.2.1
  omega
 ·have:=q x hx;omega
end Go.PL
