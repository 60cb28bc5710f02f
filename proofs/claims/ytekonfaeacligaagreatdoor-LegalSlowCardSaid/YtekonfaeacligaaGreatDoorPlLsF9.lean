/- Functions of the program, as partial functions in Lean, with proofs. -/
import Derived.Test.YtekonfaeacligaaGreatDoorPlLsB
import Derived.Test.YtekonfaeacligaaGreatDoorPlLsF8
namespace Go.PL
open Go Go.RowKit Go.Proofs
set_option maxRecDepth 100000
set_option linter.all false
set_option maxHeartbeats 4000000
attribute [local irreducible] Ak BW BI
def LR (a0:List (AI)):Option (Bool):=
 (some (if(decide (1<=(a0.length:Int))) then decide ((a0.length:Int)<=8)else false)).bind fun b2=>
 some b2
def Du (a0:List (AI)) (a1:Int) (Th:Int):Option ((Int)⊕(Unit⊕Bool)):=
 (if(decide (Th<(a0.length:Int))) then
  (idx a0 Th).bind fun e8=>
  (QK e8 a1).bind fun r9=>
  (if !r9 then
   some (.inr (.inr false))
  else
   some (.inl (Aj (Th+1))))
 else
  some (.inr (.inl ())))
def Ii (a0:List (AI)) (a1:Int):Option (Bool):=
 jn (fun(v:Unit)=>LR a0) (fun jJ1=>
 (iter (fun(v:Int)=>Du a0 a1 v) FU (0:Int)).bind (Sum.elim (fun o0=>jJ1 ()) (fun o1=>some o1)))
def Xc:BH:=mC [tP] 59 Tryz.f59 (.s .n (.j ⟨[0],[],[],[]⟩ (.s .n (.l ⟨[0,1],[Ci 5],[],[]⟩ [(1,⟨[0],[],[],[]⟩),(0,⟨[],[GE 4],[],[]⟩)] .n)) .n)) [.k (.w_ 112), .k (.int .i64)] [.k (.bool)] (fun x=>Ii x.1 x.2.1) Tryz.func59 (by kernel_rfl)
end Go.PL
