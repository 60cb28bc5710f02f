/- What an argument of the Begin laws is known for. -/
import Derived.Test.YteginlijmbcopaaGreatDoorPlCfw
import Derived.Test.YteginlijmbcopaaGreatDoorPlBkD
namespace Go.PL
open Go
theorem SG {α:Type} {b:Nat} {p:α->Prop} {l:List α} (hb:1<=b) (h:sH b p l):l.length<9223372036854775807:=by have:=h.1;unfold reachBytes at this;have:l.length*1<=l.length*b:=Nat.mul_le_mul_left _ hb;omega
theorem AaB {c:Bx} (h:iq c):AdM c:=by have ha:=h.2.2.2.2.2.2.2.2.1;exact⟨SG (by decide) ha,fun a hm=>⟨SG (by decide) (ha.2 a hm).2.2.2.2.2.2.2.1,SG (by decide) (ha.2 a hm).2.2.2.2.2.2.2.2.1⟩⟩
theorem ed {c:Az} (h:ec c):c.h_.length<9223372036854775807/\w8 c:=
 ⟨SG (by decide) h.2.1,fun x hx=>AaB (h.1.2 x hx),fun d hd=>SG (by decide) (h.2.1.2 d hd)⟩
end Go.PL
