/- Functions of the program, as partial functions in Lean, with proofs. -/
import Derived.Test.YtekonfaeacligaaGreatDoorPlLsB
import Derived.Test.YtekonfaeacligaaGreatDoorPlLsF12
import Derived.Test.YtekonfaeacligaaGreatDoorPlLsF13
import Derived.Test.YtekonfaeacligaaGreatDoorPlLsF3
namespace Go.PL
open Go Go.RowKit Go.Proofs
set_option maxRecDepth 100000
set_option linter.all false
set_option maxHeartbeats 4000000
attribute [local irreducible] Ak BW BI
def J5 (a0:QB):Option (Bool):=
 (some (if(decide (12<(a0.acf.length:Int))) then true else decide (40<(a0.S.b_.length:Int)))).bind fun b1=>
 (some (if b1 then true else decide (6<(a0.S.aae.length:Int)))).bind fun b2=>
 (gd (b2==false) (Mr a0.S)).bind fun r3=>
 (some (if b2 then true else !r3)).bind fun b4=>
 (some (if b4 then true else decide (100000<a0.S.aaE))).bind fun b5=>
 (some (if b5 then true else decide (100000<a0.S.Ti))).bind fun b6=>
 (if b6 then
  some false
 else
  (Jj a0.acf).bind fun r8=>
  (gd ((r8.2==0)==true) (bK a0.acf a0.S)).bind fun r9=>
  (some (if r8.2==0 then r9 else false)).bind fun b10=>
  some b10)
def bL:BH:=mC [gD,gI,tR] 4 Tryz.f4 .n [.s 33] [.k (.bool)] (fun x=>J5 x.1) Tryz.func4 (by kernel_rfl)
end Go.PL
