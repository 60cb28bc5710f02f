/- What an argument of LegalSlow is known for. -/
import Derived.Test.YtekonfaeacligaaGreatDoorPlLsL
import Derived.Test.YtekonfaeacligaaGreatDoorPlLsD
namespace Go.PL
open Go
set_option linter.all false
theorem EI {α:Type} {b:Nat} {p:α->Prop} {l:List α} (h:SD b p l):Pw b l:=by have:=h.1;unfold reachBytes at this;unfold Pw;omega
theorem uM {a:AB} (h:HH a):lh a:=⟨EI h.2.2.1,EI h.2.2.2.2.2.2.2.1,EI h.2.2.2.2.2.2.2.2.1,fun e he=>EI (h.2.2.2.2.2.2.2.2.1.2 e he).2.2.2.2.2.2.2.2.1⟩
theorem uN {l:List A4} (h:SD 176 bY l):gT l:=fun c hc=>by have ha:=(h.2 c hc).2.2.2.2.2.2.2.2.1;exact⟨(EI ha).sh (by decide),fun a hm=>(uM (ha.2 a hm)).len⟩
theorem uO {s:AF} (h:WL s):WE s:=by
 obtain⟨h1,h2,h3,h4,h5,h6,h7, -, -, -, -, -, -, -, -, -,h8, -⟩:=h;exact⟨EI h1,fun p hp=>by have:=h1.2 p hp;exact⟨EI this.2.2.2.2.2.2.1,EI this.2.2.2.2.2.2.2.1,EI this.2.2.2.2.2.2.2.2.1⟩,EI h2,EI h3,EI h4,EI h5,fun x hx=>by have:=h5.2 x hx;exact⟨uM this.2.2.2.2.2.2.1,EI this.2.2.2.2.2.2.2.1⟩,
  EI h6,fun x hx=>uM (h6.2 x hx).2.2.1,EI h7,fun x hx=>by have:=h7.2 x hx;exact⟨EI this.2.2.2.2.1,EI this.2.2.2.2.2.1⟩,EI h8⟩
theorem uP {x:QB} (h:uL x):WE x.S/\gT x.acf:=⟨uO h.2.1,uN h.1⟩
end Go.PL
