/- Functions of the program, as partial functions in Lean, with proofs. -/
import Derived.Test.YteginlijmbcopaaGreatDoorPlBdB
import Derived.Test.YteginlijmbcopaaGreatDoorPlBdF1
import Derived.Test.YteginlijmbcopaaGreatDoorPlBdF11
import Derived.Test.YteginlijmbcopaaGreatDoorPlBdF2
import Derived.Test.YteginlijmbcopaaGreatDoorPlBdF4
namespace Go.PL
open Go Go.RowKit Go.Proofs
set_option maxRecDepth 100000
set_option linter.all false
set_option maxHeartbeats 4000000
attribute [local irreducible] Ae Cq Cl
def PU:Option (Int):=
 some (0:Int)
def OA (agm:Int):Option ((Int)⊕(Unit⊕Int)):=
 some (.inl (Aa (agm+1)))
def CG (a0:AA) (e15:List (Int)) (ajm:Int):Option ((Int)⊕(Unit⊕Int)):=
 (if(decide (ajm<(e15.length:Int))) then
  (idx e15 ajm).bind fun e21=>
  (some (if decide (e21<0) then true else decide ((a0.aaG.length:Int)<=e21))).bind fun b22=>
  (gd (b22==false) (idx a0.aaG e21)).bind fun e23=>
  (some (if b22 then true else e23.Token)).bind fun b24=>
  (if b24 then
   some (.inr (.inr (2:Int)))
  else
   some (.inl (Aa (ajm+1))))
 else
  some (.inr (.inl ())))
def CH (a0:AA) (agm:Int):Option ((Int)⊕(Unit⊕Int)):=
 (if(decide (agm<(a0.i_.length:Int))) then
  jn (fun(v:Unit)=>OA agm) (fun ade=>
  (idx a0.i_ agm).bind fun e15=>
  (iter (fun(v:Int)=>CG a0 e15 v) FU (0:Int)).bind (Sum.elim (fun o0=>ade ()) (fun o1=>some (.inr (.inr o1)))))
 else
  some (.inr (.inl ())))
def Hd (a0:AA):Option (Int):=
 jn (fun(v:Unit)=>PU) (fun jJ8=>
 (iter (fun(v:Int)=>CH a0 v) FU (0:Int)).bind (Sum.elim (fun o0=>jJ8 ()) (fun o1=>some o1)))
def DU (a0:AA) (ajo:Int):Option ((Int)⊕(Unit⊕Int)):=
 (if(decide (ajo<(a0.i_.length:Int))) then
  (idx a0.i_ ajo).bind fun e31=>
  (if(decide (250<(e31.length:Int))) then
   some (.inr (.inr (5:Int)))
  else
   some (.inl (Aa (ajo+1))))
 else
  some (.inr (.inl ())))
def IK (a0:AA):Option (Int):=
 (FE a0.aaG).bind fun r1=>
 (if r1.2 != 0 then
  some r1.2
 else
  (some (if(decide ((a0.i_.length:Int)<2)) then true else decide (4<(a0.i_.length:Int)))).bind fun b3=>
  (some (if b3 then true else decide (a0.aaX<0))).bind fun b4=>
  (some (if b4 then true else decide ((a0.i_.length:Int)<=a0.aaX))).bind fun b5=>
  (if b5 then
   some (1:Int)
  else
   jn (fun(v:Unit)=>Hd a0) (fun jJ7=>
   (iter (fun(v:Int)=>DU a0 v) FU (0:Int)).bind (Sum.elim (fun o0=>jJ7 ()) (fun o1=>some o1)))))
def eE:Bb:=mC [Yi] 21 Tryz.f21 (.s .n (.s .n (.s .n (.j ⟨[1],[],[[1]],[]⟩ (.s .n (.l ⟨[1,44,45],[Bd 46],[[1]],[]⟩ [(1,⟨[1],[],[[1]],[]⟩),(0,⟨[],[Bd 2],[],[]⟩)] .n)) (.j IT (.s .n (.l ⟨[1,55,56],[Bd 57],[[1]],[]⟩ [(3,IT),(0,⟨[],[Bd 2],[],[]⟩)] (.s .n (.s .n (.j ⟨[1,55,56,57],[],[[1]],[]⟩ (.s .n (.s .n (.l ⟨[1,55,56,57,61,62],[Bd 63],[[1]],[]⟩ [(5,⟨[1,55,56,57],[],[[1]],[]⟩),(0,⟨[],[Bd 2],[],[]⟩)] .n))) .n))))) .n))))) [.s 26] [.k (.int .i64)] (fun x=>IK x.1) Tryz.func21 (by kernel_rfl)
def N0 (a0:AO) (anl:Int):Option (Bool):=
 (bW a0).bind fun r22=>
 (if r22 then
  (some (if !a0.Token then a0.Keys==0 else false)).bind fun b24=>
  (some (if b24 then(a0.j_.length:Int)==1 else false)).bind fun b25=>
  (some (if b25 then anl==1 else false)).bind fun b26=>
  some b26
 else
  (some (if !a0.Token then(Fn .i64 a0.adu.Types (32:Int))==(0:Int)else false)).bind fun b27=>
  (some (if b27 then true else a0.akL==(⟨0,0,(⟨0,0,0,0,0⟩:A5 (Int))⟩:Az))).bind fun b28=>
  (some (if anl==0 then b28 else false)).bind fun b29=>
  some b29)
def cR (agW:Int) (arc:Int):Option ((Int×Int)⊕(Int⊕Bool)):=
 some (.inl (arc,(Aa (agW+1))))
def KT (a0:AO) (akW:Int) (agW:Int):Option ((Int×Int)⊕(Int⊕Bool)):=
 (if(decide (agW<(a0.j_.length:Int))) then
  jn (fun(v:Int)=>cR agW v) (fun anQ=>
  (idx a0.j_ agW).bind fun e40=>
  (L3 e40).bind fun r41=>
  (if !r41 then
   some (.inr (.inr false))
  else
   (idx a0.j_ agW).bind fun e43=>
   (if e43.Kind==2 then
    anQ (Aa (akW+1))
   else
    anQ akW)))
 else
  some (.inr (.inl akW)))
def Wi (a0:AO):Option (Bool):=
 (V2 a0.Name).bind fun r1=>
 (gd ((!r1)==false) (VW a0.akL)).bind fun r2=>
 (some (if !r1 then true else !r2)).bind fun b3=>
 (gd (b3==false) (cI a0.adu)).bind fun r4=>
 (some (if b3 then true else !r4)).bind fun b5=>
 (gd (b5==false) (Pr a0.Keys)).bind fun r6=>
 (some (if b5 then true else !r6)).bind fun b7=>
 (some (if b7 then true else decide (a0.Color<0))).bind fun b8=>
 (some (if b8 then true else decide (31<a0.Color))).bind fun b9=>
 (if b9 then
  some false
 else
  (some (if decide (a0.Power<0) then true else decide (99<a0.Power))).bind fun b11=>
  (some (if b11 then true else decide (a0.abv<0))).bind fun b12=>
  (some (if b12 then true else decide (99<a0.abv))).bind fun b13=>
  (gd (b13==false) (Jp a0)).bind fun r14=>
  (some (if a0.Power != 0 then true else a0.abv != 0)).bind fun b15=>
  (some (if !r14 then b15 else false)).bind fun b16=>
  (some (if b13 then true else b16)).bind fun b17=>
  (some (if b17 then true else decide (8<(a0.j_.length:Int)))).bind fun b18=>
  (if b18 then
   some false
  else
   jn (fun(v:Int)=>N0 a0 v) (fun ahu=>
   (iter (fun(v:Int×Int)=>KT a0 v.1 v.2) FU ((0:Int),(0:Int))).bind (Sum.elim (fun o0=>ahu o0) (fun o1=>some o1)))))
def Aag:Bb:=mC [ce,bI,z8,oL,bJ,Aaf,sG] 62 Tryz.f62 (.s .n (.s .n (.s .n (.s .n (.j ⟨[1],[Bd 3],[[1]],[]⟩ (.s .n (.l ⟨[1],[Bd 3,Bd 4],[[1]],[]⟩ [(1,⟨[1],[Bd 3],[[1]],[]⟩),(0,⟨[],[ES 2],[],[]⟩)] (.s .n (.j ⟨[1,4],[Bd 3],[[1]],[]⟩ .n .n)))) .n))))) [.s 102] [.k (.bool)] (fun x=>Wi x.1) Tryz.func62 (by kernel_rfl)
end Go.PL
