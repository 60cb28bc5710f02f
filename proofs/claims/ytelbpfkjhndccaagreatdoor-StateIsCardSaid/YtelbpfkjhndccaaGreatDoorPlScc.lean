/- Plain laws of states: StateIs. -/
import Derived.Test.YtelbpfkjhndccaaGreatDoorPlScb
namespace Go.PL
open Go
set_option maxRecDepth 100000
set_option linter.all false
set_option maxHeartbeats 4000000
theorem dF {M:Nat}: ∀ (l:List AB) (n:Nat),(∀ p∈l,p.Library.length≤M∧p.Hand.length≤M∧p.Graveyard.length≤M)→(N5 AB.Library AB.Hand AB.Graveyard n l).length ≤3*M*l.length
 | [],_,_=>by simp [N5]
 | p::l,n,h=>by
   have ih:=dF l (n+1) (fun q hq=>h q (by simp [hq]))
   have:=h p (by simp)
   unfold N5
   simp only [List.length_append,List.length_cons]
   rw [Nat.mul_add]
   omega
theorem kD {α:Type} {b:Nat} {ok:α→Prop} {l:List α} (h:SA b ok l):l.length*b≤140737488351232:=by
 have:=h.1
 unfold reachBytes at this
 exact this
theorem ql {a:Ay} (h:H6 a):dt a:=by
 unfold H6 at h
 exact⟨NM h.2.2.2.2.2.2.2.1,NM h.2.2.2.2.2.2.2.2.1⟩
theorem uT {p:AB} (h:Rc p):p.Library.length*8≤140737488351232∧p.Hand.length*8≤140737488351232∧p.Graveyard.length*8≤140737488351232:=by
 unfold Rc at h
 exact⟨kD h.2.2.2.2.2.2.1,kD h.2.2.2.2.2.2.2.1,kD h.2.2.2.2.2.2.2.2.1⟩
theorem uU {s:Ai} (ho:NB s):Sy s:=by
 unfold NB at ho
 obtain⟨hp,hob,hb,he,hk,hw,hc, -, -, -, -, -, -, -, -, -,hx, -, -, -⟩:=ho
 have b0:=kD hp
 have b1:=kD hob
 have b2:=kD hb
 have b3:=kD he
 have b4:=kD hk
 have b5:=kD hw
 have b6:=kD hc
 have b7:=kD hx
 have q: ∀ x∈s.Players,x.Library.length*8≤140737488351232∧x.Hand.length*8≤140737488351232∧x.Graveyard.length*8≤140737488351232:=fun x hx=>uT (hp.2 x hx)
 refine⟨⟨by omega,by omega,by omega,by omega,fun x hx=>?_,by omega,by omega,by omega,by omega,fun h4=>?_,fun x hx=>?_,fun x hx=>?_,fun x hx=>?_⟩,by omega,by omega,fun x hx=>?_⟩
 ·have:=q x hx;omega
 ·unfold NC ga
  have h1:=dF (M:=17592186043904) s.Players 0 (fun p hp=>by have:=q p hp;omega)
  have h2:=iB s.Stack
  have h3:3*17592186043904*s.Players.length≤3*17592186043904*4:=Nat.mul_le_mul_left _ h4
  simp only [List.length_append]
  omega
 ·have:=hk.2 x hx
  unfold Vq at this
  exact ql this.2.2.2.2.2.2.1
 ·have:=hw.2 x hx
  unfold PF at this
  exact ql this.2.2.1
 ·have:=hc.2 x hx
  unfold Vr at this
  have:=kD this.2.2.2.2.1
  omega
 ·have:=q x hx;omega
theorem dG {cs:List E1} {s:Ai} (ho:NB s):Ly cs s=some true:=by
 have y:=uU ho
 obtain⟨r,hr⟩:=rP ho cs
 unfold Ly
 rw [hr,uR y.z,uS y,tN]
 simp only [Option.bind_some,oQ,beq_self_eq_true,Zh]
 cases r<;>rfl
end Go.PL
