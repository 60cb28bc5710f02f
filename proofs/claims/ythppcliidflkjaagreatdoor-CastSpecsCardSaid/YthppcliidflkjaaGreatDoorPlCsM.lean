/- What an argument of CastSpecs is known for. -/
import Derived.Test.YthppcliidflkjaaGreatDoorPlCsL
import Derived.Test.YthppcliidflkjaaGreatDoorPlCsD
namespace Go.PL
open Go
theorem W7 {α:Type} {b:Nat} {p:α→Prop} {l:List α} (h:jN b p l):l.length*b≤140737488351232:=by
 have:=h.1
 unfold reachBytes at this
 exact this
theorem fL {c:Gb} (h:ZP c):mw c:=by
 obtain⟨_,_,_,_,h5,_,_,_,h9,_⟩:=h
 refine⟨W7 h5.2.2.1,fun a ha=>?_⟩
 obtain⟨_,_,a3,_,_,_,_,a8,a9,_⟩:=h9.2 a ha
 refine⟨W7 a3,W7 a8,W7 a9,fun e he=>⟨?_⟩⟩
 obtain⟨_,_,_,_,_,_,_,_,e9,_⟩:=a9.2 e he
 exact W7 e9
end Go.PL
