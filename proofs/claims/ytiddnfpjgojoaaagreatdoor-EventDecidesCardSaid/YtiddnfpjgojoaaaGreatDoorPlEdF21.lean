/- Functions of the program, as partial functions in Lean, with proofs. -/
import Derived.Test.YtiddnfpjgojoaaaGreatDoorPlEdB
import Derived.Test.YtiddnfpjgojoaaaGreatDoorPlEdF1
import Derived.Test.YtiddnfpjgojoaaaGreatDoorPlEdF10
import Derived.Test.YtiddnfpjgojoaaaGreatDoorPlEdF20
import Derived.Test.YtiddnfpjgojoaaaGreatDoorPlEdF4
import Derived.Test.YtiddnfpjgojoaaaGreatDoorPlEdF8
namespace Go.PL
open Go Go.RowKit Go.Proofs
set_option maxRecDepth 100000
set_option linter.all false
set_option maxHeartbeats 4000000
attribute [local irreducible] Aj BO Bz
def Yh (a0:List (A1)) (a1:Ao):Option (Bool):=
 (gd ((a1.Over==1)==true) (CS a1 a1.Winner)).bind fun r22=>
 (some (if(a1.Over==1)=true then !r22 else false)).bind fun b23=>
 (some (if(a1.Over != 1)=true then a1.Winner != (-1:Int)else false)).bind fun b24=>
 (some (if b23=true then true else b24)).bind fun b25=>
 (if b25=true then
  some false
 else
  (Jc a0 a1).bind fun r27=>
  (gd (r27==true) (Og a1)).bind fun r28=>
  (some (if r27=true then r28 else false)).bind fun b29=>
  some b29)
def Yi (a1:Ao) (i_t5_31:Int):Option ((Int)⊕(Unit⊕Bool)):=
 (if(decide (i_t5_31<(a1.Extra.length:Int)))=true then
  (idx a1.Extra i_t5_31).bind fun e35=>
  (CS a1 e35).bind fun r36=>
  (if(!r36)=true then
   some (.inr (.inr false))
  else
   some (.inl (Ac (i_t5_31+1))))
 else
  some (.inr (.inl ())))
def ei (a0:List (A1)) (a1:Ao):Option (Bool):=
 (DT a1.NextId (1:Int) (1000000:Int)).bind fun r1=>
 (gd ((!r1)==false) (DT a1.NextStamp (1:Int) (1000000:Int))).bind fun r2=>
 (some (if(!r1)=true then true else !r2)).bind fun b3=>
 (gd (b3==false) (DT a1.Turn (0:Int) (500:Int))).bind fun r4=>
 (some (if b3=true then true else !r4)).bind fun b5=>
 (gd (b5==false) (DT a1.Step (0:Int) (10:Int))).bind fun r6=>
 (some (if b5=true then true else !r6)).bind fun b7=>
 (some (if b7=true then true else decide (2048<(a1.Objects.length:Int)))).bind fun b8=>
 (if b8=true then
  some false
 else
  (Jd a1).bind fun r10=>
  (gd ((!r10)==false) (CS a1 a1.Active)).bind fun r11=>
  (some (if(!r10)=true then true else !r11)).bind fun b12=>
  (gd (b12==false) (CS a1 a1.Priority)).bind fun r13=>
  (some (if b12=true then true else !r13)).bind fun b14=>
  (gd (b14==false) (DT a1.Passes (0:Int) (a1.Players.length:Int))).bind fun r15=>
  (some (if b14=true then true else !r15)).bind fun b16=>
  (some (if b16=true then true else decide (500<(a1.Extra.length:Int)))).bind fun b17=>
  (gd (b17==false) (DT a1.Over (0:Int) (2:Int))).bind fun r18=>
  (some (if b17=true then true else !r18)).bind fun b19=>
  (if b19=true then
   some false
  else
   jn (fun(v:Unit)=>Yh a0 a1) (fun jJ21=>
   (iter (fun(v:Int)=>Yi a1 v) FU (0:Int)).bind (Sum.elim (fun o0=>jJ21 ()) (fun o1=>some o1)))))
def sj:CE TE Tryz.prog I0:=AK [MM,Ze,K5,Za,iS] Ab Ad 9 10 Tryz.f10 (Tryz.f10.body.getD .skip) (.s .n (.s .n (.s .n (.j ⟨[0,3],[],[[3]],[]⟩ (.s .n (.l ⟨[0,3],[(5, .c (.v (.k (.int .i64))))],[[3]],[]⟩ [(1,⟨[0,3],[],[[3]],[]⟩),(0,⟨[],[(4, .c (.v (.k (.bool))))],[],[]⟩)] .n)) .n)))) [.k (.lst 73), .s 31] [.k (.bool)] (fun x=>ei x.1 x.2.1) Tryz.func10 rfl (by kernel_rfl)
end Go.PL
