/- Functions of the program, as partial functions in Lean, with proofs. -/
import Derived.Test.YteginlijmbcopaaGreatDoorPlBkB
import Derived.Test.YteginlijmbcopaaGreatDoorPlBkF0
import Derived.Test.YteginlijmbcopaaGreatDoorPlBkF10
namespace Go.PL
open Go Go.RowKit Go.Proofs
set_option maxRecDepth 100000
set_option linter.all false
set_option maxHeartbeats 4000000
attribute [local irreducible] Ad Cx Cr
def ME:Option (Int×Int):=
 some ((-1:Int),(0:Int))
def DG (a0:List (Bx)) (aeQ:Int):Option ((Int)⊕(Unit⊕(Int×Int))):=
 (if(decide (aeQ<(a0.length:Int))) then
  (idx a0 aeQ).bind fun e9=>
  (Sz e9).bind fun r10=>
  (if !r10 then
   some (.inr (.inr (aeQ,(9:Int))))
  else
   (Jt a0 e9.Name).bind fun r12=>
   (if decide (r12<aeQ) then
    some (.inr (.inr (aeQ,(6:Int))))
   else
    (Ie a0 e9).bind fun r14=>
    (if r14 then
     some (.inr (.inr (aeQ,(7:Int))))
    else
     some (.inl (Ac (aeQ+1))))))
 else
  some (.inr (.inl ())))
def FN (a0:List (Bx)):Option (Int×Int):=
 (if(decide (256<(a0.length:Int))) then
  some ((-1:Int),(5:Int))
 else
  jn (fun(v:Unit)=>ME) (fun jJ2=>
  (iter (fun(v:Int)=>DG a0 v) FU (0:Int)).bind (Sum.elim (fun o0=>jJ2 ()) (fun o1=>some (o1.1,o1.2)))))
def Wa:Cj:=mC [sX,Y3,VS] 54 Tryz.f54 (.s .n (.s .n (.j M5 (.s .n (.l ⟨[0,9,10],[BS 11],[],[]⟩ [(1,M5),(0,⟨[],[BS 2,BS 3],[],[]⟩)] .n)) .n))) [.k (.t_ 102)] [.k (.int .i64), .k (.int .i64)] (fun x=>FN x.1) Tryz.func54 (by kernel_rfl)
end Go.PL
