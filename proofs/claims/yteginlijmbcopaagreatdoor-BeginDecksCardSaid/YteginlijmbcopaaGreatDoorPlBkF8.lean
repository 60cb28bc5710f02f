/- Functions of the program, as partial functions in Lean, with proofs. -/
import Derived.Test.YteginlijmbcopaaGreatDoorPlBkB
import Derived.Test.YteginlijmbcopaaGreatDoorPlBkF0
import Derived.Test.YteginlijmbcopaaGreatDoorPlBkF7
namespace Go.PL
open Go Go.RowKit Go.Proofs
set_option maxRecDepth 100000
set_option linter.all false
set_option maxHeartbeats 4000000
attribute [local irreducible] Ad Cx Cr
def JP (a0:AA) (a1:Int):Option (Bool):=
 (IH a0.Op).bind fun r1=>
 (gd ((r1 != ([]:List UInt8))==true) (Ps a0.Op)).bind fun r2=>
 (gd ((r1 != ([]:List UInt8))==true) (Jx a0 r2 a1)).bind fun r3=>
 (some (if(r1 != ([]:List UInt8)) then r3 else false)).bind fun b4=>
 some b4
def ly:Cj:=mC [aq,kX,Zt] 208 Tryz.f208 .n [.s 180, .k (.int .i64)] [.k (.bool)] (fun x=>JP x.1 x.2.1) Tryz.func208 (by kernel_rfl)
end Go.PL
