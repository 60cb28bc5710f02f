/- Functions of the program, as partial functions in Lean, with proofs. -/
import Derived.Test.YteginlijmbcopaaGreatDoorPlBlB
import Derived.Test.YteginlijmbcopaaGreatDoorPlBlF0
import Derived.Test.YteginlijmbcopaaGreatDoorPlBlF11
import Derived.Test.YteginlijmbcopaaGreatDoorPlBlF2
import Derived.Test.YteginlijmbcopaaGreatDoorPlBlF3
import Derived.Test.YteginlijmbcopaaGreatDoorPlBlF4
namespace Go.PL
open Go Go.RowKit Go.Proofs
set_option maxRecDepth 100000
set_option linter.all false
set_option maxHeartbeats 4000000
attribute [local irreducible] Aq Cr Cc
def M5 (a0:AN) (aqT:Int):Option (Bool):=
 (ZD a0).bind fun r22=>
 (if r22 then
  (some (if !a0.Token then a0.Keys==0 else false)).bind fun b24=>
  (some (if b24 then(a0.A_.length:Int)==1 else false)).bind fun b25=>
  (some (if b25 then aqT==1 else false)).bind fun b26=>
  some b26
 else
  (some (if !a0.Token then(J9 .i64 a0.aea.Types (32:Int))==(0:Int)else false)).bind fun b27=>
  (some (if b27 then true else a0.anB==(⟨0,0,(⟨0,0,0,0,0⟩:A5 (Int))⟩:AS))).bind fun b28=>
  (some (if aqT==0 then b28 else false)).bind fun b29=>
  some b29)
def aQ (ahI:Int) (auR:Int):Option ((Int×Int)⊕(Int⊕Bool)):=
 some (.inl (auR,(Ab (ahI+1))))
def J6 (a0:AN) (anL:Int) (ahI:Int):Option ((Int×Int)⊕(Int⊕Bool)):=
 (if(decide (ahI<(a0.A_.length:Int))) then
  jn (fun(v:Int)=>aQ ahI v) (fun an_=>
  (idx a0.A_ ahI).bind fun e40=>
  (M4 e40).bind fun r41=>
  (if !r41 then
   some (.inr (.inr false))
  else
   (idx a0.A_ ahI).bind fun e43=>
   (if e43.Kind==2 then
    an_ (Ab (anL+1))
   else
    an_ anL)))
 else
  some (.inr (.inl anL)))
def UM (a0:AN):Option (Bool):=
 (Uz a0.Name).bind fun r1=>
 (gd ((!r1)==false) (Uo a0.anB)).bind fun r2=>
 (some (if !r1 then true else !r2)).bind fun b3=>
 (gd (b3==false) (ac a0.aea)).bind fun r4=>
 (some (if b3 then true else !r4)).bind fun b5=>
 (gd (b5==false) (Oa a0.Keys)).bind fun r6=>
 (some (if b5 then true else !r6)).bind fun b7=>
 (some (if b7 then true else decide (a0.Color<0))).bind fun b8=>
 (some (if b8 then true else decide (31<a0.Color))).bind fun b9=>
 (if b9 then
  some false
 else
  (some (if decide (a0.Power<0) then true else decide (99<a0.Power))).bind fun b11=>
  (some (if b11 then true else decide (a0.acD<0))).bind fun b12=>
  (some (if b12 then true else decide (99<a0.acD))).bind fun b13=>
  (gd (b13==false) (IF a0)).bind fun r14=>
  (some (if a0.Power != 0 then true else a0.acD != 0)).bind fun b15=>
  (some (if !r14 then b15 else false)).bind fun b16=>
  (some (if b13 then true else b16)).bind fun b17=>
  (some (if b17 then true else decide (8<(a0.A_.length:Int)))).bind fun b18=>
  (if b18 then
   some false
  else
   jn (fun(v:Int)=>M5 a0 v) (fun aiG=>
   (iter (fun(v:Int×Int)=>J6 a0 v.1 v.2) FU ((0:Int),(0:Int))).bind (Sum.elim (fun o0=>aiG o0) (fun o1=>some o1)))))
def yO:A9:=mC [ZR,Zt,yI,mS,Zu,aP,qT] 62 Tryz.f62 (.s .n (.s .n (.s .n (.s .n (.j ⟨[1],[A0 3],[[1]],[]⟩ (.s .n (.l ⟨[1],[A0 3,A0 4],[[1]],[]⟩ [(1,⟨[1],[A0 3],[[1]],[]⟩),(0,⟨[],[EO 2],[],[]⟩)] (.s .n (.j ⟨[1,4],[A0 3],[[1]],[]⟩ .n .n)))) .n))))) [.s 102] [.k (.bool)] (fun x=>UM x.1) Tryz.func62 (by kernel_rfl)
def SU (a0:Aa) (a1:AE):Option (Bool):=
 (Eu a1.Id (1:Int) (Ab (a0.f_ - 1))).bind fun r1=>
 (gd ((!r1)==false) (Eu a1.X (0:Int) (1000000:Int))).bind fun r2=>
 (some (if !r1 then true else !r2)).bind fun b3=>
 (some (if b3 then true else decide (4<(a1.aaF.length:Int)))).bind fun b4=>
 (gd (b4==false) (Cx a0 a1.Control)).bind fun r5=>
 (some (if b4 then true else !r5)).bind fun b6=>
 (if b6 then
  some false
 else
  (J0 a0 a1.Id).bind fun r8=>
  (if a1.Kind==1 then
   (GG a1.C_ (⟨0,(⟨0,0,0,0,0,0,0,[],0,0,(⟨0,0⟩:As),(⟨0,0⟩:As),(⟨0,0⟩:As)⟩:Av),([]:List (BB)),(⟨(⟨0,0,(⟨0,0,0,0,0⟩:A5 (Int))⟩:AS),false,false,0⟩:CC),false,(⟨0,0,(⟨0,0,0,0,0,0,0,[],0,0,(⟨0,0⟩:As),(⟨0,0⟩:As),(⟨0,0⟩:As)⟩:Av)⟩:Bz),false,([]:List (C8)),([]:List (AF)),(⟨0,0,(⟨0,0,0,0,0,0,0,[],0,0,(⟨0,0⟩:As),(⟨0,0⟩:As),(⟨0,0⟩:As)⟩:Av),0,0,0,0⟩:Bn)⟩:AG)).bind fun r10=>
   (some (if a1.Source==a1.Id then r8.2 else false)).bind fun b11=>
   (some (if b11 then r8.1.O_==5 else false)).bind fun b12=>
   (gd ((b12==true)&&(r10==false)) (M4 a1.C_)).bind fun r13=>
   (some (if r10 then true else r13)).bind fun b14=>
   (some (if b12 then b14 else false)).bind fun b15=>
   some b15
  else
   (some (if a1.Kind==2 then !r8.2 else false)).bind fun b16=>
   (gd (b16==true) (M4 a1.C_)).bind fun r17=>
   (some (if b16 then r17 else false)).bind fun b18=>
   some b18))
def rB:A9:=mC [Oi,II,Sz,QW,aP] 94 Tryz.f94 .n [.s 36, .s 126] [.k (.bool)] (fun x=>SU x.1 x.2.1) Tryz.func94 (by kernel_rfl)
end Go.PL
