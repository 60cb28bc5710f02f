/- What an argument of the Begin laws is known for. -/
import Derived.Test.YteginlijmbcopaaGreatDoorPlCfw
import Derived.Test.YteginlijmbcopaaGreatDoorPlBdD
namespace Go.PL
open Go
theorem UN {α:Type} {b:Nat} {p:α->Prop} {l:List α} (hb:1<=b) (h:zG b p l):l.length<9223372036854775807:=by have:=h.1;unfold reachBytes at this;have:l.length*1<=l.length*b:=Nat.mul_le_mul_left _ hb;omega
theorem AdH {c:AO} (h:lH c):AdA c:=by have ha:=h.2.2.2.2.2.2.2.2.1;exact⟨UN (by decide) ha,fun a hm=>⟨UN (by decide) (ha.2 a hm).2.2.2.2.2.2.2.1,UN (by decide) (ha.2 a hm).2.2.2.2.2.2.2.2.1⟩⟩
theorem iT {c:AA} (h:iS c):c.i_.length<9223372036854775807/\th c:=
 ⟨UN (by decide) h.2.1,fun x hx=>AdH (h.1.2 x hx),fun d hd=>UN (by decide) (h.2.1.2 d hd)⟩
end Go.PL
