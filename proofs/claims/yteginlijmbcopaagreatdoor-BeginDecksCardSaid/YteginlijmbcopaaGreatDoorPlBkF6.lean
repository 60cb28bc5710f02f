/- Functions of the program, as partial functions in Lean, with proofs. -/
import Derived.Test.YteginlijmbcopaaGreatDoorPlBkB
import Derived.Test.YteginlijmbcopaaGreatDoorPlBkF0
import Derived.Test.YteginlijmbcopaaGreatDoorPlBkF1
import Derived.Test.YteginlijmbcopaaGreatDoorPlBkF2
import Derived.Test.YteginlijmbcopaaGreatDoorPlBkF3
import Derived.Test.YteginlijmbcopaaGreatDoorPlBkF4
import Derived.Test.YteginlijmbcopaaGreatDoorPlBkF5
namespace Go.PL
open Go Go.RowKit Go.Proofs
set_option maxRecDepth 100000
set_option linter.all false
set_option maxHeartbeats 4000000
attribute [local irreducible] Ad Cx Cr
def I8 (aop:List (List UInt8)):Option ((List UInt8)):=
 (GG aop Fe).bind fun r5=>
 some r5
def MC (a0:List (B4)) (aj9:Int) (afq:List (List UInt8)):Option ((Int×(List (List UInt8)))⊕((List (List UInt8))⊕(List UInt8))):=
 (if(decide (aj9<(a0.length:Int))) then
  (idx a0 aj9).bind fun e15=>
  (LR e15).bind fun r16=>
  (if !r16 then
   some (.inr (.inr ([]:List UInt8)))
  else
   (Sy e15).bind fun r18=>
   (app 16 afq ([r18]:List (List UInt8))).bind fun l19=>
   some (.inl ((Ac (aj9+1)),l19)))
 else
  some (.inr (.inl afq)))
def Fp (a0:List (B4)):Option ((List UInt8)):=
 (some (if(decide ((a0.length:Int)<1)) then true else decide (6<(a0.length:Int)))).bind fun b1=>
 (if b1 then
  some ([]:List UInt8)
 else
  jn (fun(v:(List (List UInt8)))=>I8 v) (fun jJ4=>
  (iter (fun(v:Int×(List (List UInt8)))=>MC a0 v.1 v.2) FU ((0:Int),([]:List (List UInt8)))).bind (Sum.elim (fun o0=>jJ4 o0) (fun o1=>some o1))))
def OT:Cj:=mC [lq,oO,OH] 205 Tryz.f205 (.s .n (.s .n (.s .n (.j ⟨[],[(3, .c (.c (.j_ [3])))],[],[([3], .row 9)]⟩ (.s .n (.l ⟨[14,15],[(3, .c (.c (.j_ [3]))),BS 16],[],[([3], .row 9)]⟩ [(1,⟨[],[(3, .c (.c (.j_ [3])))],[],[([3], .row 9)]⟩),(0,⟨[],[sq 2],[],[]⟩)] .n)) .n)))) [.k (.t_ 148)] [.k (.str)] (fun x=>Fp x.1) Tryz.func205 (by kernel_rfl)
def QU (a0:List (Bx)) (a1:Aa):Option (Bool):=
 (gd ((a1.ac9==1)==true) (Gd a1 a1.aaK)).bind fun r22=>
 (some (if a1.ac9==1 then !r22 else false)).bind fun b23=>
 (some (if a1.ac9 != 1 then a1.aaK != (-1:Int)else false)).bind fun b24=>
 (some (if b23 then true else b24)).bind fun b25=>
 (if b25 then
  some false
 else
  (Lv a0 a1).bind fun r27=>
  (gd (r27==true) (Pu a1)).bind fun r28=>
  (some (if r27 then r28 else false)).bind fun b29=>
  some b29)
def QV (a1:Aa) (aiL:Int):Option ((Int)⊕(Unit⊕Bool)):=
 (if(decide (aiL<(a1.Extra.length:Int))) then
  (idx a1.Extra aiL).bind fun e35=>
  (Gd a1 e35).bind fun r36=>
  (if !r36 then
   some (.inr (.inr false))
  else
   some (.inl (Ac (aiL+1))))
 else
  some (.inr (.inl ())))
def gX (a0:List (Bx)) (a1:Aa):Option (Bool):=
 (G7 a1.g_ (1:Int) (1000000:Int)).bind fun r1=>
 (gd ((!r1)==false) (G7 a1.l_ (1:Int) (1000000:Int))).bind fun r2=>
 (some (if !r1 then true else !r2)).bind fun b3=>
 (gd (b3==false) (G7 a1.aaf (0:Int) (500:Int))).bind fun r4=>
 (some (if b3 then true else !r4)).bind fun b5=>
 (gd (b5==false) (G7 a1.Step (0:Int) (10:Int))).bind fun r6=>
 (some (if b5 then true else !r6)).bind fun b7=>
 (some (if b7 then true else decide (2048<(a1.b_.length:Int)))).bind fun b8=>
 (if b8 then
  some false
 else
  (Lx a1).bind fun r10=>
  (gd ((!r10)==false) (Gd a1 a1.aaj)).bind fun r11=>
  (some (if !r10 then true else !r11)).bind fun b12=>
  (gd (b12==false) (Gd a1 a1.Priority)).bind fun r13=>
  (some (if b12 then true else !r13)).bind fun b14=>
  (gd (b14==false) (G7 a1.Passes (0:Int) (a1.bk.length:Int))).bind fun r15=>
  (some (if b14 then true else !r15)).bind fun b16=>
  (some (if b16 then true else decide (500<(a1.Extra.length:Int)))).bind fun b17=>
  (gd (b17==false) (G7 a1.ac9 (0:Int) (2:Int))).bind fun r18=>
  (some (if b17 then true else !r18)).bind fun b19=>
  (if b19 then
   some false
  else
   jn (fun(v:Unit)=>QU a0 a1) (fun ahE=>
   (iter (fun(v:Int)=>QV a1 v) FU (0:Int)).bind (Sum.elim (fun o0=>ahE ()) (fun o1=>some o1)))))
def wx:Cj:=mC [Sk,a8,Sq,aY,lp] 18 Tryz.f18 (.s .n (.s .n (.s .n (.j ⟨[0,3],[],[[3]],[]⟩ (.s .n (.l ⟨[0,3],[BS 5],[[3]],[]⟩ [(1,⟨[0,3],[],[[3]],[]⟩),(0,⟨[],[JL 4],[],[]⟩)] .n)) .n)))) [.k (.t_ 102), .s 36] [.k (.bool)] (fun x=>gX x.1 x.2.1) Tryz.func18 (by kernel_rfl)
end Go.PL
