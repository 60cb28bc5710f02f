/- What an argument of BeginDeals is known for. -/
import Derived.Test.YteginlijmbcopaaGreatDoorPlBlT
import Derived.Test.YteginlijmbcopaaGreatDoorPlBlD
namespace Go.PL
open Go
set_option linter.all false
theorem Fo {α:Type} {b:Nat} {p:α->Prop} {l:List α} (h:V9 b p l):E8 b l:=by have:=h.1;unfold reachBytes at this;unfold E8;omega
theorem zW {a:AG} (h:J8 a):aY a:=⟨Fo h.2.2.1,Fo h.2.2.2.2.2.2.2.1,Fo h.2.2.2.2.2.2.2.2.1,fun e he=>Fo (h.2.2.2.2.2.2.2.2.1.2 e he).2.2.2.2.2.2.2.2.1⟩
theorem zX {l:List AN} (h:V9 176 tM l):zm l:=fun c hc=>by have ha:=(h.2 c hc).2.2.2.2.2.2.2.2.1;exact⟨(Fo ha).sh (by decide),fun a hm=>(zW (ha.2 a hm)).len⟩
theorem zY {s:Aa} (h:om s):Gb s:=by
 obtain⟨h1,h2,h3,h4,h5,h6,h7, -, -, -, -, -, -, -, -, -,h8, -⟩:=h;exact⟨Fo h1,fun p hp=>by have:=h1.2 p hp;exact⟨Fo this.2.2.2.2.2.2.1,Fo this.2.2.2.2.2.2.2.1,Fo this.2.2.2.2.2.2.2.2.1⟩,Fo h2,Fo h3,Fo h4,Fo h5,fun x hx=>by have:=h5.2 x hx;exact⟨zW this.2.2.2.2.2.2.1,Fo this.2.2.2.2.2.2.2.1⟩,
  Fo h6,fun x hx=>zW (h6.2 x hx).2.2.1,Fo h7,fun x hx=>by have:=h7.2 x hx;exact⟨Fo this.2.2.2.2.1,Fo this.2.2.2.2.2.1⟩,Fo h8⟩
theorem be {an:List (List Int)} (h:V9 24 (V9 8 (CA .i64)) an):E8 24 an/\ ∀ a∈an,a.length*8<=140737488355328:=⟨Fo h,fun a ha=>Fo (h.2 a ha)⟩
end Go.PL
