/- Functions of the program, as partial functions in Lean, with proofs. -/
import Derived.Test.YteginlijmbcopaaGreatDoorPlBkB
import Derived.Test.YteginlijmbcopaaGreatDoorPlBkF0
import Derived.Test.YteginlijmbcopaaGreatDoorPlBkF3
import Derived.Test.YteginlijmbcopaaGreatDoorPlBkF9
namespace Go.PL
open Go Go.RowKit Go.Proofs
set_option maxRecDepth 100000
set_option linter.all false
set_option maxHeartbeats 4000000
attribute [local irreducible] Ad Cx Cr
def Ly (a0:Bx) (adr:Int):Option (Bool):=
 (QM a0).bind fun r21=>
 (if r21 then
  (some (if !a0.Token then a0.Keys==0 else false)).bind fun b23=>
  (some (if b23 then(a0.z_.length:Int)==1 else false)).bind fun b24=>
  (some (if b24 then adr==1 else false)).bind fun b25=>
  some b25
 else
  (gd ((adr==0)==true) (LL a0)).bind fun r26=>
  (some (if !r26 then true else a0.amj==(⟨0,0,(⟨0,0,0,0,0⟩:A5 (Int))⟩:AG))).bind fun b27=>
  (some (if adr==0 then b27 else false)).bind fun b28=>
  some b28)
def VD (ae_:Int) (aiG:Int):Option ((Int×Int)⊕(Int⊕Bool)):=
 some (.inl (aiG,(Ac (ae_+1))))
def IQ (a0:Bx) (adq:Int) (ae_:Int):Option ((Int×Int)⊕(Int⊕Bool)):=
 (if(decide (ae_<(a0.z_.length:Int))) then
  jn (fun(v:Int)=>VD ae_ v) (fun asW=>
  (idx a0.z_ ae_).bind fun e39=>
  (H7 e39).bind fun r40=>
  (if !r40 then
   some (.inr (.inr false))
  else if e39.Kind==2 then
   asW (Ac (adq+1))
  else
   asW adq))
 else
  some (.inr (.inl adq)))
def Sz (a0:Bx):Option (Bool):=
 (Pq a0.Name).bind fun r1=>
 (gd ((!r1)==false) (Pr a0.amj)).bind fun r2=>
 (some (if !r1 then true else !r2)).bind fun b3=>
 (gd (b3==false) (Sr a0.agD)).bind fun r4=>
 (some (if b3 then true else !r4)).bind fun b5=>
 (gd (b5==false) (F8 a0.Keys)).bind fun r6=>
 (some (if b5 then true else !r6)).bind fun b7=>
 (gd (b7==false) (IG a0.Color)).bind fun r8=>
 (some (if b7 then true else !r8)).bind fun b9=>
 (if b9 then
  some false
 else
  (some (if decide (a0.Power<0) then true else decide (99<a0.Power))).bind fun b11=>
  (some (if b11 then true else decide (a0.acS<0))).bind fun b12=>
  (some (if b12 then true else decide (99<a0.acS))).bind fun b13=>
  (some (if a0.Power != 0 then true else a0.acS != 0)).bind fun b14=>
  (some (if((JS .i64 a0.agD.Types (1:Int))==(0:Int)) then b14 else false)).bind fun b15=>
  (some (if b13 then true else b15)).bind fun b16=>
  (if b16 then
   some false
  else if(decide (8<(a0.z_.length:Int))) then
   some false
  else
   jn (fun(v:Int)=>Ly a0 v) (fun aov=>
   (iter (fun(v:Int×Int)=>IQ a0 v.1 v.2) FU ((0:Int),(0:Int))).bind (Sum.elim (fun o0=>aov o0) (fun o1=>some o1)))))
def sX:Cj:=mC [T5,T6,sW,R7,YZ,gY,gB,VR] 98 Tryz.f98 (.s .n (.s .n (.s .n (.s .n (.s .n (.j ⟨[1],[BS 3],[[1]],[]⟩ (.s .n (.l ⟨[1,74,75],[BS 3,BS 76],[[1]],[]⟩ [(1,⟨[1],[BS 3],[[1]],[]⟩),(0,⟨[],[JL 2],[],[]⟩)] (.s .n (.s .n (.j ⟨[1,74,75,76],[BS 3],[[1]],[]⟩ .n .n))))) .n)))))) [.s 102] [.k (.bool)] (fun x=>Sz x.1) Tryz.func98 (by kernel_rfl)
end Go.PL
