/- Functions of the program, as partial functions in Lean, with proofs. -/
import Derived.Test.YteginlijmbcopaaGreatDoorPlBdB
import Derived.Test.YteginlijmbcopaaGreatDoorPlBdF0
import Derived.Test.YteginlijmbcopaaGreatDoorPlBdF3
import Derived.Test.YteginlijmbcopaaGreatDoorPlBdF9
namespace Go.PL
open Go Go.RowKit Go.Proofs
set_option maxRecDepth 100000
set_option linter.all false
set_option maxHeartbeats 4000000
attribute [local irreducible] Ae Cq Cl
def LA (a0:AO) (ad7:Int):Option (Bool):=
 (RY a0).bind fun r21=>
 (if r21 then
  (some (if !a0.Token then a0.Keys==0 else false)).bind fun b23=>
  (some (if b23 then(a0.j_.length:Int)==1 else false)).bind fun b24=>
  (some (if b24 then ad7==1 else false)).bind fun b25=>
  some b25
 else
  (gd ((ad7==0)==true) (LP a0)).bind fun r26=>
  (some (if !r26 then true else a0.akL==(⟨0,0,(⟨0,0,0,0,0⟩:A5 (Int))⟩:Az))).bind fun b27=>
  (some (if ad7==0 then b27 else false)).bind fun b28=>
  some b28)
def XH (agl:Int) (ajw:Int):Option ((Int×Int)⊕(Int⊕Bool)):=
 some (.inl (ajw,(Aa (agl+1))))
def IJ (a0:AO) (ad6:Int) (agl:Int):Option ((Int×Int)⊕(Int⊕Bool)):=
 (if(decide (agl<(a0.j_.length:Int))) then
  jn (fun(v:Int)=>XH agl v) (fun aur=>
  (idx a0.j_ agl).bind fun e39=>
  (C0 e39).bind fun r40=>
  (if !r40 then
   some (.inr (.inr false))
  else if e39.Kind==2 then
   aur (Aa (ad6+1))
  else
   aur ad6))
 else
  some (.inr (.inl ad6)))
def UD (a0:AO):Option (Bool):=
 (Qo a0.Name).bind fun r1=>
 (gd ((!r1)==false) (Qp a0.akL)).bind fun r2=>
 (some (if !r1 then true else !r2)).bind fun b3=>
 (gd (b3==false) (Uh a0.adu)).bind fun r4=>
 (some (if b3 then true else !r4)).bind fun b5=>
 (gd (b5==false) (FX a0.Keys)).bind fun r6=>
 (some (if b5 then true else !r6)).bind fun b7=>
 (gd (b7==false) (Iz a0.Color)).bind fun r8=>
 (some (if b7 then true else !r8)).bind fun b9=>
 (if b9 then
  some false
 else
  (some (if decide (a0.Power<0) then true else decide (99<a0.Power))).bind fun b11=>
  (some (if b11 then true else decide (a0.abv<0))).bind fun b12=>
  (some (if b12 then true else decide (99<a0.abv))).bind fun b13=>
  (some (if a0.Power != 0 then true else a0.abv != 0)).bind fun b14=>
  (some (if((Fn .i64 a0.adu.Types (1:Int))==(0:Int)) then b14 else false)).bind fun b15=>
  (some (if b13 then true else b15)).bind fun b16=>
  (if b16 then
   some false
  else if(decide (8<(a0.j_.length:Int))) then
   some false
  else
   jn (fun(v:Int)=>LA a0 v) (fun alz=>
   (iter (fun(v:Int×Int)=>IJ a0 v.1 v.2) FU ((0:Int),(0:Int))).bind (Sum.elim (fun o0=>alz o0) (fun o1=>some o1)))))
def xa:Bb:=mC [VK,VL,w9,TQ,bu,lr,kI,XV] 98 Tryz.f98 (.s .n (.s .n (.s .n (.s .n (.s .n (.j ⟨[1],[Bd 3],[[1]],[]⟩ (.s .n (.l ⟨[1,74,75],[Bd 3,Bd 76],[[1]],[]⟩ [(1,⟨[1],[Bd 3],[[1]],[]⟩),(0,⟨[],[ES 2],[],[]⟩)] (.s .n (.s .n (.j ⟨[1,74,75,76],[Bd 3],[[1]],[]⟩ .n .n))))) .n)))))) [.s 102] [.k (.bool)] (fun x=>UD x.1) Tryz.func98 (by kernel_rfl)
def PT (a0:List (Av)):Option (Bool):=
 (some (if(decide (1<=(a0.length:Int))) then decide ((a0.length:Int)<=8)else false)).bind fun b2=>
 some b2
def EQ (a0:List (Av)) (a1:Int) (aeW:Int):Option ((Int)⊕(Unit⊕Bool)):=
 (if(decide (aeW<(a0.length:Int))) then
  (idx a0 aeW).bind fun e8=>
  (Sh e8 a1).bind fun r9=>
  (if !r9 then
   some (.inr (.inr false))
  else
   some (.inl (Aa (aeW+1))))
 else
  some (.inr (.inl ())))
def LC (a0:List (Av)) (a1:Int):Option (Bool):=
 jn (fun(v:Unit)=>PT a0) (fun jJ1=>
 (iter (fun(v:Int)=>EQ a0 a1 v) FU (0:Int)).bind (Sum.elim (fun o0=>jJ1 ()) (fun o1=>some o1)))
def eD:Bb:=mC [Aae] 142 Tryz.f142 (.s .n (.j ⟨[0],[],[],[]⟩ (.s .n (.l ⟨[0,1],[Bd 5],[],[]⟩ [(1,⟨[0],[],[],[]⟩),(0,⟨[],[ES 4],[],[]⟩)] .n)) .n)) [.k (.l_ 180), .k (.int .i64)] [.k (.bool)] (fun x=>LC x.1 x.2.1) Tryz.func142 (by kernel_rfl)
end Go.PL
