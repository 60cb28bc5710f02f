/- Functions of the program, as partial functions in Lean, with proofs. -/
import Derived.Test.YtekonfaeacligaaGreatDoorPlLsB
import Derived.Test.YtekonfaeacligaaGreatDoorPlLsF0
import Derived.Test.YtekonfaeacligaaGreatDoorPlLsF14
namespace Go.PL
open Go Go.RowKit Go.Proofs
set_option maxRecDepth 100000
set_option linter.all false
set_option maxHeartbeats 4000000
attribute [local irreducible] Ak BW BI
def DU (a0:QB):Option (Bool):=
 (J5 a0).bind fun r1=>
 (if !r1 then
  (VI).bind fun r3=>
  some r3
 else
  (JS a0.S a0.P).bind fun r4=>
  (We a0.S a0.P).bind fun r5=>
  (gd ((r4==r5)==true) (VI)).bind fun r6=>
  (some (if r4==r5 then r6 else false)).bind fun b7=>
  some b7)
def Ps:BH:=mC [bL,tF,bn,kM] 3 Tryz.f3 .n [.s 33] [.k (.bool)] (fun x=>DU x.1) Tryz.func3 (by kernel_rfl)
def Pt (a0:QB) (r:Bool):Prop:=Cm Tryz.prog I0 3 [vA SV a0] (· =vB r)
theorem NP {a0:QB} {r:Bool} (h:DU a0=some r):Pt a0 r:=Aat (by kernel_rfl) (Ps.ok (a0,()) r h)
end Go.PL
