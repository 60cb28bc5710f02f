/- A text of the proof. -/
import Derived.Test.YteginlijmbcopaaGreatDoorPlBkX
set_option linter.all false
namespace Go.PL
open Go Go.RowKit
set_option maxRecDepth 100000
def zM:List UInt8:=[45]
def wy:List UInt8:=[112,108,117,115]
def sY:List UInt8:=[109,105,110,117,115]
def oP:List UInt8:=[99,104,97,114,103,101]
def dU:Option (Bool):=
 some true
def Ed (a0:AG) (afV:Int):Option ((Int)⊕(Unit⊕Bool)):=
 (if(decide (afV<(5:Int))) then
  (idx a0.Color.l afV).bind fun e11=>
  (idx a0.Color.l afV).bind fun e12=>
  (gd ((decide (e12<(0:Int)))==false) (idx a0.Color.l afV)).bind fun e13=>
  (gd ((decide (e12<(0:Int)))==false) (idx a0.Color.l afV)).bind fun e14=>
  (some (if(decide (e12<(0:Int))) then true else decide ((9:Int)<e14))).bind fun b15=>
  (if b15 then
   some (.inr (.inr false))
  else
   some (.inl (Ac (afV+(1:Int)))))
 else
  some (.inr (.inl ())))
def oQ (a0:AG):Option (Bool):=
 (some (if(decide (a0.Generic<(0:Int))) then true else decide ((99:Int)<a0.Generic))).bind fun b1=>
 (some (if b1 then true else decide (a0.X<(0:Int)))).bind fun b2=>
 (some (if b2 then true else decide ((2:Int)<a0.X))).bind fun b3=>
 (if b3 then
  some false
 else
  jn (fun(v:Unit)=>dU) (fun jJ5=>
  (iter (fun(v:Int)=>Ed a0 v) FU (0:Int)).bind (Sum.elim (fun o0=>jJ5 ()) (fun o1=>some o1))))
def gZ:Option (Bool):=
 some true
def be (anA:Int) (alx:Int) (abC:Int):Option ((Int×Int×Int)⊕(Unit⊕Bool)):=
 (if(decide (abC<(6:Int))) then
  (some (if((Int.tmod anA (2:Int))==(1:Int)) then(Int.tmod alx (2:Int))==(1:Int)else false)).bind fun b15=>
  (if b15 then
   some (.inr (.inr false))
  else
   some (.inl ((Ac (Int.tdiv anA (2:Int))),(Ac (Int.tdiv alx (2:Int))),(Ac (abC+(1:Int))))))
 else
  some (.inr (.inl ())))
def JQ (a0:Int) (a1:Int) (a2:Int):Option (Bool):=
 (some (if(decide (a0<(0:Int))) then true else decide (a2<a0))).bind fun b1=>
 (some (if b1 then true else decide (a1<(0:Int)))).bind fun b2=>
 (some (if b2 then true else decide (a2<a1))).bind fun b3=>
 (if b3 then
  some false
 else
  jn (fun(v:Unit)=>gZ) (fun jJ5=>
  (iter (fun(v:Int×Int×Int)=>be v.1 v.2.1 v.2.2) FU (a0,a1,(0:Int))).bind (Sum.elim (fun o0=>jJ5 ()) (fun o1=>some o1))))
def bg (aqf:List UInt8):Option ((List UInt8)):=
 some aqf
def bh (aiE:Int) (aeR:List UInt8):Option ((Int×(List UInt8))⊕((List UInt8))):=
 (if(decide ((0:Int)<aiE)) then
  (n_ (∀ n∈([IntKind.u8.wrap (IntKind.u64.wrap ((48:Int)+(Int.tmod aiE (10:Int))))]:List (Int)),0<=n/\n<256)).bind fun u11=>
  (cat (S1 ([IntKind.u8.wrap (IntKind.u64.wrap ((48:Int)+(Int.tmod aiE (10:Int))))]:List (Int))) aeR).bind fun s12=>
  some (.inl ((IntKind.u64.wrap (Int.tdiv aiE (10:Int))),s12))
 else
  some (.inr aeR))
def Zv (a0:Int):Option ((List UInt8)):=
 (n_ (∀ n∈([IntKind.u8.wrap (IntKind.u64.wrap ((48:Int)+(Int.tmod a0 (10:Int))))]:List (Int)),0<=n/\n<256)).bind fun u1=>
 (iter (fun(v:Int×(List UInt8))=>bh v.1 v.2) FU ((IntKind.u64.wrap (Int.tdiv a0 (10:Int))),(S1 ([IntKind.u8.wrap (IntKind.u64.wrap ((48:Int)+(Int.tmod a0 (10:Int))))]:List (Int))))).bind (fun o0=>bg o0)
def lB (a0:Int):Option ((List UInt8)):=
 (if(a0==(0:Int)) then
  some wy
 else
  (if(a0==(1:Int)) then
   some sY
  else
   (if(a0==(2:Int)) then
    some oP
   else
    some ([]:List UInt8))))
def Zw (a0:Int):Option ((List UInt8)):=
 (if(decide (a0<(0:Int))) then
  (Zv (IntKind.u64.wrap (0 - (IntKind.u64.wrap (a0))))).bind fun r2=>
  (cat zM r2).bind fun s3=>
  some s3
 else
  (Zv (IntKind.u64.wrap (a0))).bind fun r4=>
  some r4)
def VF (aeR:List UInt8):Option ((List UInt8)):=
 (if(aeR==([]:List UInt8)) then
  some dP
 else
  some aeR)
def hH (ab6:Int) (aob:List UInt8):Option (((List UInt8)×Int)⊕((List UInt8))):=
 some (.inl (aob,(Ac (ab6+(1:Int)))))
def Hg (a0:AG) (ab6:Int) (ak2:List UInt8) (ak_:Int):Option (((List UInt8)×Int)⊕((List UInt8))):=
 (idx a0.Color.l ab6).bind fun e25=>
 (idx a0.Color.l ab6).bind fun e26=>
 (if decide (ak_<e26) then
  (Xb Mo ab6 (Ac (ab6+(1:Int)))).bind fun s28=>
  (cat ak2 s28).bind fun s29=>
  some (.inl (s29,(Ac (ak_+(1:Int)))))
 else
  some (.inr ak2))
def Jy (a0:AG) (ak3:List UInt8) (ab6:Int):Option (((List UInt8)×Int)⊕((List UInt8))):=
 (if(decide (ab6<(5:Int))) then
  jn (fun(v:(List UInt8))=>hH ab6 v) (fun aow=>
  (iter (fun(v:(List UInt8)×Int)=>Hg a0 ab6 v.1 v.2) FU (ak3,(0:Int))).bind (fun o0=>aow o0))
 else
  some (.inr ak3))
def OX (a0:AG) (akk:List UInt8):Option ((List UInt8)):=
 jn (fun(v:(List UInt8))=>VF v) (fun jJ8=>
 (iter (fun(v:(List UInt8)×Int)=>Jy a0 v.1 v.2) FU (akk,(0:Int))).bind (fun o0=>jJ8 o0))
def OY (a0:AG) (amD:List UInt8):Option ((List UInt8)):=
 jn (fun(v:(List UInt8))=>OX a0 v) (fun jJ6=>
 (if(a0.Generic != (0:Int)) then
  (Zw a0.Generic).bind fun r31=>
  (cat amD r31).bind fun s32=>
  jJ6 s32
 else
  jJ6 amD))
def Hh (a0:AG) (ak1:List UInt8) (alh:Int):Option (((List UInt8)×Int)⊕((List UInt8))):=
 (if decide (alh<a0.X) then
  (cat ak1 qu).bind fun s40=>
  some (.inl (s40,(Ac (alh+(1:Int)))))
 else
  some (.inr ak1))
def lC (a0:AG):Option ((List UInt8)):=
 (oQ a0).bind fun r1=>
 (if !r1 then
  some ([]:List UInt8)
 else
  jn (fun(v:(List UInt8))=>OY a0 v) (fun jJ4=>
  (iter (fun(v:(List UInt8)×Int)=>Hh a0 v.1 v.2) FU (([]:List UInt8),(0:Int))).bind (fun o0=>jJ4 o0)))
end Go.PL
