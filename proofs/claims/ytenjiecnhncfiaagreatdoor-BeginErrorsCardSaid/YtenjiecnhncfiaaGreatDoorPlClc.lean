/- What an argument of the Begin laws is known for. -/
import Derived.Test.YtenjiecnhncfiaaGreatDoorPlCla
import Derived.Test.YtenjiecnhncfiaaGreatDoorPlBeD
namespace Go.PL
open Go
theorem Uw {α:Type} {b:Nat} {p:α->Prop} {l:List α} (hb:1<=b) (h:xO b p l):l.length<9223372036854775807:=by have:=h.1;unfold reachBytes at this;have:l.length*1<=l.length*b:=Nat.mul_le_mul_left _ hb;omega
theorem AbY {c:AO} (h:kH c):AbQ c:=by have ha:=h.2.2.2.2.2.2.2.2.1;exact⟨Uw (by decide) ha,fun a hm=>⟨Uw (by decide) (ha.2 a hm).2.2.2.2.2.2.2.1,Uw (by decide) (ha.2 a hm).2.2.2.2.2.2.2.2.1⟩⟩
theorem ib {c:AH} (h:ia c):c.l_.length<9223372036854775807/\AbT c:=
 ⟨Uw (by decide) h.2.1,fun x hx=>AbY (h.1.2 x hx),fun d hd=>Uw (by decide) (h.2.1.2 d hd)⟩
end Go.PL
