/- Functions of the program, as partial functions in Lean, with proofs. -/
import Derived.Test.YteginlijmbcopaaGreatDoorPlBkB
import Derived.Test.YteginlijmbcopaaGreatDoorPlBkF11
namespace Go.PL
open Go Go.RowKit Go.Proofs
set_option maxRecDepth 100000
set_option linter.all false
set_option maxHeartbeats 4000000
attribute [local irreducible] Ad Cx Cr
def OU:Option (Int):=
 some (0:Int)
def NU (afb:Int):Option ((Int)⊕(Unit⊕Int)):=
 some (.inl (Ac (afb+1)))
def D3 (a0:Az) (e15:List (Int)) (aiy:Int):Option ((Int)⊕(Unit⊕Int)):=
 (if(decide (aiy<(e15.length:Int))) then
  (idx e15 aiy).bind fun e21=>
  (some (if decide (e21<0) then true else decide ((a0.C_.length:Int)<=e21))).bind fun b22=>
  (gd (b22==false) (idx a0.C_ e21)).bind fun e23=>
  (some (if b22 then true else e23.Token)).bind fun b24=>
  (if b24 then
   some (.inr (.inr (2:Int)))
  else
   some (.inl (Ac (aiy+1))))
 else
  some (.inr (.inl ())))
def D4 (a0:Az) (afb:Int):Option ((Int)⊕(Unit⊕Int)):=
 (if(decide (afb<(a0.h_.length:Int))) then
  jn (fun(v:Unit)=>NU afb) (fun afu=>
  (idx a0.h_ afb).bind fun e15=>
  (iter (fun(v:Int)=>D3 a0 e15 v) FU (0:Int)).bind (Sum.elim (fun o0=>afu ()) (fun o1=>some (.inr (.inr o1)))))
 else
  some (.inr (.inl ())))
def OV (a0:Az):Option (Int):=
 jn (fun(v:Unit)=>OU) (fun jJ8=>
 (iter (fun(v:Int)=>D4 a0 v) FU (0:Int)).bind (Sum.elim (fun o0=>jJ8 ()) (fun o1=>some o1)))
def D5 (a0:Az) (aiz:Int):Option ((Int)⊕(Unit⊕Int)):=
 (if(decide (aiz<(a0.h_.length:Int))) then
  (idx a0.h_ aiz).bind fun e31=>
  (if(decide (250<(e31.length:Int))) then
   some (.inr (.inr (5:Int)))
  else
   some (.inl (Ac (aiz+1))))
 else
  some (.inr (.inl ())))
def Lz (a0:Az):Option (Int):=
 (FN a0.C_).bind fun r1=>
 (if r1.2 != 0 then
  some r1.2
 else
  (some (if(decide ((a0.h_.length:Int)<2)) then true else decide (4<(a0.h_.length:Int)))).bind fun b3=>
  (some (if b3 then true else decide (a0.Td<0))).bind fun b4=>
  (some (if b4 then true else decide ((a0.h_.length:Int)<=a0.Td))).bind fun b5=>
  (if b5 then
   some (1:Int)
  else
   jn (fun(v:Unit)=>OV a0) (fun jJ7=>
   (iter (fun(v:Int)=>D5 a0 v) FU (0:Int)).bind (Sum.elim (fun o0=>jJ7 ()) (fun o1=>some o1)))))
def ba:Cj:=mC [Wa] 21 Tryz.f21 (.s .n (.s .n (.s .n (.j ⟨[1],[],[[1]],[]⟩ (.s .n (.l ⟨[1,44,45],[BS 46],[[1]],[]⟩ [(1,⟨[1],[],[[1]],[]⟩),(0,⟨[],[BS 2],[],[]⟩)] .n)) (.j M5 (.s .n (.l ⟨[1,55,56],[BS 57],[[1]],[]⟩ [(3,M5),(0,⟨[],[BS 2],[],[]⟩)] (.s .n (.s .n (.j ⟨[1,55,56,57],[],[[1]],[]⟩ (.s .n (.s .n (.l ⟨[1,55,56,57,61,62],[BS 63],[[1]],[]⟩ [(5,⟨[1,55,56,57],[],[[1]],[]⟩),(0,⟨[],[BS 2],[],[]⟩)] .n))) .n))))) .n))))) [.s 26] [.k (.int .i64)] (fun x=>Lz x.1) Tryz.func21 (by kernel_rfl)
end Go.PL
