/- Functions of the program, as partial functions in Lean, with proofs. -/
import Derived.Test.YteginlijmbcopaaGreatDoorPlBlB
import Derived.Test.YteginlijmbcopaaGreatDoorPlBlF0
import Derived.Test.YteginlijmbcopaaGreatDoorPlBlF11
import Derived.Test.YteginlijmbcopaaGreatDoorPlBlF12
import Derived.Test.YteginlijmbcopaaGreatDoorPlBlF2
import Derived.Test.YteginlijmbcopaaGreatDoorPlBlF7
namespace Go.PL
open Go Go.RowKit Go.Proofs
set_option maxRecDepth 100000
set_option linter.all false
set_option maxHeartbeats 4000000
attribute [local irreducible] Aq Cr Cc
def SV:Option (Int×Int):=
 some ((-1:Int),(0:Int))
def GN (a0:List (AN)) (aei:Int):Option ((Int)⊕(Unit⊕(Int×Int))):=
 (if(decide (aei<(a0.length:Int))) then
  (idx a0 aei).bind fun e9=>
  (UM e9).bind fun r10=>
  (if !r10 then
   some (.inr (.inr (aei,(9:Int))))
  else
   (idx a0 aei).bind fun e12=>
   (R7 a0 e12.Name).bind fun r13=>
   (if decide (r13<aei) then
    some (.inr (.inr (aei,(6:Int))))
   else
    (idx a0 aei).bind fun e15=>
    (KD a0 e15).bind fun r16=>
    (if !r16 then
     some (.inr (.inr (aei,(7:Int))))
    else
     some (.inl (Ab (aei+1))))))
 else
  some (.inr (.inl ())))
def L9 (a0:List (AN)):Option (Int×Int):=
 (if(decide (256<(a0.length:Int))) then
  some ((-1:Int),(5:Int))
 else
  jn (fun(v:Unit)=>SV) (fun jJ2=>
  (iter (fun(v:Int)=>GN a0 v) FU (0:Int)).bind (Sum.elim (fun o0=>jJ2 ()) (fun o1=>some (o1.1,o1.2)))))
def nQ:A9:=mC [yO,qU,cA] 31 Tryz.f31 (.s .n (.s .n (.j EN (.s .n (.l ⟨[0],[A0 4],[],[]⟩ [(1,EN),(0,⟨[],[A0 2,A0 3],[],[]⟩)] .n)) .n))) [.k (.u_ 102)] [.k (.int .i64), .k (.int .i64)] (fun x=>L9 x.1) Tryz.func31 (by kernel_rfl)
def SW:Option (Bool):=
 some true
def Lq (a0:Aa) (aoc:Int):Option ((Int)⊕(Unit⊕Bool)):=
 (if(decide (aoc<(a0.v_.length:Int))) then
  (idx a0.v_ aoc).bind fun e12=>
  (Cx a0 e12.Control).bind fun r13=>
  (some (if !r13 then true else decide (a0.c_<=e12.adf))).bind fun b14=>
  (gd (b14==false) (Eu e12.akw (1:Int) (2:Int))).bind fun r15=>
  (some (if b14 then true else !r15)).bind fun b16=>
  (gd (b16==false) (ZF e12.b_)).bind fun r17=>
  (some (if b16 then true else !r17)).bind fun b18=>
  (gd (b18==false) (Db e12.aai)).bind fun r19=>
  (some (if b18 then true else r19==([]:List UInt8))).bind fun b20=>
  (if b20 then
   some (.inr (.inr false))
  else
   some (.inl (Ab (aoc+1))))
 else
  some (.inr (.inl ())))
def IU (a0:Aa):Option (Bool):=
 jn (fun(v:Unit)=>SW) (fun jJ6=>
 (iter (fun(v:Int)=>Lq a0 v) FU (0:Int)).bind (Sum.elim (fun o0=>jJ6 ()) (fun o1=>some o1)))
def Lr (a0:Aa) (ame:Int):Option ((Int)⊕(Unit⊕Bool)):=
 (if(decide (ame<(a0.o_.length:Int))) then
  (idx a0.o_ ame).bind fun e27=>
  (Cx a0 e27.Control).bind fun r28=>
  (some (if !r28 then true else e27.C_.Kind != 4)).bind fun b29=>
  (gd (b29==false) (M4 e27.C_)).bind fun r30=>
  (some (if b29 then true else !r30)).bind fun b31=>
  (if b31 then
   some (.inr (.inr false))
  else
   some (.inl (Ab (ame+1))))
 else
  some (.inr (.inl ())))
def IV (a0:Aa):Option (Bool):=
 jn (fun(v:Unit)=>IU a0) (fun jJ5=>
 (iter (fun(v:Int)=>Lr a0 v) FU (0:Int)).bind (Sum.elim (fun o0=>jJ5 ()) (fun o1=>some o1)))
def P5 (adh:Int):Option ((Int)⊕(Unit⊕Bool)):=
 some (.inl (Ab (adh+1)))
def HF (a0:Aa) (adh:Int) (ama:Int):Option ((Int)⊕(Unit⊕Bool)):=
 (if decide (ama<adh) then
  (idx a0.Stack ama).bind fun e47=>
  (idx a0.Stack adh).bind fun e48=>
  (if e47.Id==e48.Id then
   some (.inr (.inr false))
  else
   some (.inl (Ab (ama+1))))
 else
  some (.inr (.inl ())))
def Ls (a0:Aa) (adh:Int):Option ((Int)⊕(Unit⊕Bool)):=
 (if(decide (adh<(a0.Stack.length:Int))) then
  jn (fun(v:Unit)=>P5 adh) (fun aoa=>
  (idx a0.Stack adh).bind fun e39=>
  (SU a0 e39).bind fun r40=>
  (if !r40 then
   some (.inr (.inr false))
  else
   (iter (fun(v:Int)=>HF a0 adh v) FU (0:Int)).bind (Sum.elim (fun o0=>aoa ()) (fun o1=>some (.inr (.inr o1))))))
 else
  some (.inr (.inl ())))
def Pn (a0:Aa):Option (Bool):=
 (some (if(decide (64<(a0.Stack.length:Int))) then true else decide (64<(a0.o_.length:Int)))).bind fun b1=>
 (some (if b1 then true else decide (64<(a0.v_.length:Int)))).bind fun b2=>
 (if b2 then
  some false
 else
  jn (fun(v:Unit)=>IV a0) (fun jJ4=>
  (iter (fun(v:Int)=>Ls a0 v) FU (0:Int)).bind (Sum.elim (fun o0=>jJ4 ()) (fun o1=>some o1))))
def nR:A9:=mC [rB,II,aP,Oi,yG,J5] 53 Tryz.f53 (.s .n (.s .n (.j ⟨[1],[],[[1]],[]⟩ (.s .n (.l ⟨[1],[A0 3],[[1]],[]⟩ [(1,⟨[1],[],[[1]],[]⟩),(0,⟨[],[EO 2],[],[]⟩)] (.s .n (.j ⟨[1,3],[],[[1]],[]⟩ (.s .n (.s .n (.l ⟨[1,3],[A0 4],[[1]],[]⟩ [(3,⟨[1,3],[],[[1]],[]⟩),(0,⟨[],[EO 2],[],[]⟩)] .n))) .n)))) (.j ⟨[1],[],[[1]],[]⟩ (.s .n (.l ⟨[1],[A0 5],[[1]],[]⟩ [(5,⟨[1],[],[[1]],[]⟩),(0,⟨[],[EO 2],[],[]⟩)] .n)) (.j EN (.s .n (.l ⟨[1],[A0 7],[[1]],[]⟩ [(7,EN),(0,⟨[],[EO 2],[],[]⟩)] .n)) .n))))) [.s 36] [.k (.bool)] (fun x=>Pn x.1) Tryz.func53 (by kernel_rfl)
end Go.PL
