/- Functions of the program, as partial functions in Lean, with proofs. -/
import Derived.Test.YteginlijmbcopaaGreatDoorPlBdB
import Derived.Test.YteginlijmbcopaaGreatDoorPlBdF0
import Derived.Test.YteginlijmbcopaaGreatDoorPlBdF13
import Derived.Test.YteginlijmbcopaaGreatDoorPlBdF14
import Derived.Test.YteginlijmbcopaaGreatDoorPlBdF15
import Derived.Test.YteginlijmbcopaaGreatDoorPlBdF4
namespace Go.PL
open Go Go.RowKit Go.Proofs
set_option maxRecDepth 100000
set_option linter.all false
set_option maxHeartbeats 4000000
attribute [local irreducible] Ae Cq Cl
def FM (a0:AA):Option (Bool):=
 (Qn a0).bind fun r1=>
 (if !r1 then
  (IL).bind fun r3=>
  some r3
 else
  (Dz a0).bind fun r4=>
  (YP a0).bind fun r5=>
  (IL).bind fun r6=>
  (some (if r6 then r4.2==r5.2 else false)).bind fun b7=>
  (gd (b7==true) (PM r4.1 r5.1)).bind fun r8=>
  (some (if b7 then r8 else false)).bind fun b9=>
  some b9)
def UF:Bb:=mC [oC,eG,XI,xb,sP] 3 Tryz.f3 .n [.s 26] [.k (.bool)] (fun x=>FM x.1) Tryz.func3 (by kernel_rfl)
def UG (a0:AA) (r:Bool):Prop:=Cd Tryz.prog I0 3 [vA Nn a0] (· =vB r)
theorem Si {a0:AA} {r:Bool} (h:FM a0=some r):UG a0 r:=Ms (by kernel_rfl) (UF.ok (a0,()) r h)
end Go.PL
