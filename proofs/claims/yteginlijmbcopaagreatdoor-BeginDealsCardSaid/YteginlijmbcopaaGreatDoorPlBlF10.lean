/- Functions of the program, as partial functions in Lean, with proofs. -/
import Derived.Test.YteginlijmbcopaaGreatDoorPlBlB
import Derived.Test.YteginlijmbcopaaGreatDoorPlBlF9
namespace Go.PL
open Go Go.RowKit Go.Proofs
set_option maxRecDepth 100000
set_option linter.all false
set_option maxHeartbeats 4000000
attribute [local irreducible] Aq Cr Cc
def OG (a0:List (AF)):Option (Bool):=
 (some (if(decide (1<=(a0.length:Int))) then decide ((a0.length:Int)<=8)else false)).bind fun b2=>
 some b2
def EG (a0:List (AF)) (a1:Int) (Y_:Int):Option ((Int)⊕(Unit⊕Bool)):=
 (if(decide (Y_<(a0.length:Int))) then
  (idx a0 Y_).bind fun e8=>
  (UL e8 a1).bind fun r9=>
  (if !r9 then
   some (.inr (.inr false))
  else
   some (.inl (Ab (Y_+1))))
 else
  some (.inr (.inl ())))
def KL (a0:List (AF)) (a1:Int):Option (Bool):=
 jn (fun(v:Unit)=>OG a0) (fun jJ1=>
 (iter (fun(v:Int)=>EG a0 a1 v) FU (0:Int)).bind (Sum.elim (fun o0=>jJ1 ()) (fun o1=>some o1)))
def cX:A9:=mC [yN] 142 Tryz.f142 (.s .n (.j ⟨[0],[],[],[]⟩ (.s .n (.l ⟨[0,1],[A0 5],[],[]⟩ [(1,⟨[0],[],[],[]⟩),(0,⟨[],[EO 4],[],[]⟩)] .n)) .n)) [.k (.u_ 180), .k (.int .i64)] [.k (.bool)] (fun x=>KL x.1 x.2.1) Tryz.func142 (by kernel_rfl)
end Go.PL
