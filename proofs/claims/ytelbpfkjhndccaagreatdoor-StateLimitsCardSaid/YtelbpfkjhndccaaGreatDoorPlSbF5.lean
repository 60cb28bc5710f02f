/- Functions of the program, as partial functions in Lean, with proofs. -/
import Derived.Test.YtelbpfkjhndccaaGreatDoorPlSbB
import Derived.Test.YtelbpfkjhndccaaGreatDoorPlSbF1
import Derived.Test.YtelbpfkjhndccaaGreatDoorPlSbF2
namespace Go.PL
open Go Go.RowKit Go.Proofs
set_option maxRecDepth 100000
set_option linter.all false
set_option maxHeartbeats 4000000
attribute [local irreducible] Ai B4 BL
def WA:Option (Bool):=
 some true
def Jj (a0:List UInt8) (i_t3_10:Int):Option ((Int)⊕(Unit⊕Unit)):=
 (if(decide (i_t3_10<(a0.length:Int)))=true then
  (sidx a0 i_t3_10).bind fun c13=>
  (S9 c13).bind fun r14=>
  (gd ((!r14)==true) (sidx a0 i_t3_10)).bind fun c15=>
  (gd (((!r14)==true)&&((decide (c15<48))==false)) (sidx a0 i_t3_10)).bind fun c16=>
  (some (if(decide (c15<48))=true then true else decide (57<c16))).bind fun b17=>
  (some (if(!r14)=true then b17 else false)).bind fun b18=>
  (gd (b18==true) (sidx a0 i_t3_10)).bind fun c19=>
  (some (if b18=true then c19 != 45 else false)).bind fun b20=>
  (if b20=true then
   some (.inr (.inr ()))
  else
   (gd ((decide (0<i_t3_10))==true) (sidx a0 i_t3_10)).bind fun c22=>
   (some (if(decide (0<i_t3_10))=true then c22==45 else false)).bind fun b23=>
   (gd (b23==true) (sidx a0 (Ab (i_t3_10 - 1)))).bind fun c24=>
   (some (if b23=true then c24==45 else false)).bind fun gj=>
   (if gj=true then
    some (.inr (.inr ()))
   else
    some (.inl (Ab (i_t3_10+1)))))
 else
  some (.inr (.inl ())))
def XC (a0:List UInt8):Option (Bool):=
 (some (if(decide ((a0.length:Int)<1))=true then true else decide (32<(a0.length:Int)))).bind fun b1=>
 (gd (b1==false) (sidx a0 (0:Int))).bind fun c2=>
 (gd (b1==false) (S9 c2)).bind fun r3=>
 (some (if b1=true then true else !r3)).bind fun b4=>
 (gd (b4==false) (sidx a0 (Ab ((a0.length:Int) - (1:Int))))).bind fun c5=>
 (some (if b4=true then true else c5==45)).bind fun b6=>
 (if b6=true then
  some false
 else
  (iter (fun(v:Int)=>Jj a0 v) FU (0:Int)).bind (Sum.elim (fun o0=>WA) (fun o1=>some false)))
def Vx (s_t7_1:List UInt8):Option ((List UInt8)):=
 some s_t7_1
def NH (i_t8_6:Int) (s_t7_10:List UInt8):Option (((List UInt8)×Int)⊕((List UInt8))):=
 some (.inl (s_t7_10,(Ab (i_t8_6+1))))
def NI (a0:List (List UInt8)) (i_t8_6:Int) (s_t7_14:List UInt8):Option (((List UInt8)×Int)⊕((List UInt8))):=
 (idx a0 i_t8_6).bind fun e16=>
 (cat s_t7_14 e16).bind fun s17=>
 NH i_t8_6 s17
def Vy (a0:List (List UInt8)) (a1:Int) (a2:List UInt8) (s_t7_5:List UInt8) (i_t8_6:Int):Option (((List UInt8)×Int)⊕((List UInt8))):=
 (if(decide (i_t8_6<(a0.length:Int)))=true then
  (hD a1 i_t8_6).bind fun r12=>
  (if r12=true then
   (if(s_t7_5 != ([]:List UInt8))=true then
    (cat s_t7_5 a2).bind fun s19=>
    NI a0 i_t8_6 s19
   else
    NI a0 i_t8_6 s_t7_5)
  else
   NH i_t8_6 s_t7_5)
 else
  some (.inr s_t7_5))
def aO (a0:List (List UInt8)) (a1:Int) (a2:List UInt8):Option ((List UInt8)):=
 (iter (fun(v:(List UInt8)×Int)=>Vy a0 a1 a2 v.1 v.2) FU (([]:List UInt8),(0:Int))).bind (fun o0=>Vx o0)
def Y8 (out_t3_4:List UInt8):Option ((List UInt8)):=
 some out_t3_4
def Qc (i_t4_9:Int) (out_t3_13:List UInt8):Option (((List UInt8)×Int)⊕((List UInt8))):=
 some (.inl (out_t3_13,(Ab (i_t4_9+1))))
def Qd (i_t4_9:Int) (out_t3_18:List UInt8):Option (((List UInt8)×Int)⊕((List UInt8))):=
 (P5 i_t4_9).bind fun r20=>
 (cat out_t3_18 r20).bind fun s21=>
 Qc i_t4_9 s21
def XD (a0:Int) (out_t3_8:List UInt8) (i_t4_9:Int):Option (((List UInt8)×Int)⊕((List UInt8))):=
 (if(decide (i_t4_9<5))=true then
  (need (0≤i_t4_9)).bind fun u15=>
  (need ((Ab ((1:Int)*2 ^ (min (i_t4_9).toNat (IntKind.i64).bits))) ≠ 0)).bind fun u16=>
  (if((Int.tmod (Ab (Int.tdiv a0 (Ab ((1:Int)*2 ^ (min (i_t4_9).toNat (IntKind.i64).bits))))) (2:Int))==(1:Int))=true then
   (if(out_t3_8 != ([]:List UInt8))=true then
    (cat out_t3_8 Lg).bind fun s23=>
    Qd i_t4_9 s23
   else
    Qd i_t4_9 out_t3_8)
  else
   Qc i_t4_9 out_t3_8)
 else
  some (.inr out_t3_8))
def NJ (a0:Int):Option ((List UInt8)):=
 (aK a0).bind fun r1=>
 (if(!r1)=true then
  some ([]:List UInt8)
 else
  (if(a0==0)=true then
   some LY
  else
   (iter (fun(v:(List UInt8)×Int)=>XD a0 v.1 v.2) FU (([]:List UInt8),(0:Int))).bind (fun o0=>Y8 o0)))
def Q6 (a0:CG):Option (Bool):=
 (Xy a0.Mana).bind fun r1=>
 (some (if r1=true then a0.Mana.X==0 else false)).bind fun b2=>
 (some (if b2=true then decide (0≤a0.Life)else false)).bind fun b3=>
 (some (if b3=true then decide (a0.Life≤99)else false)).bind fun b4=>
 some b4
def OH (a0:Int):Option (Bool):=
 (K0 a0).bind fun r1=>
 (gd ((r1 != ([]:List UInt8))==true) (ME a0)).bind fun r2=>
 (some (if(!r2)=true then true else a0==9)).bind fun b3=>
 (some (if(r1 != ([]:List UInt8))=true then b3 else false)).bind fun b4=>
 some b4
def Y9:Option (Bool):=
 some false
def Za (a1:Int) (r1:(List UInt8)) (i_t6_4:Int):Option ((Int)⊕(Unit⊕Unit)):=
 (if(decide (i_t6_4<(r1.length:Int)))=true then
  (sidx r1 i_t6_4).bind fun c7=>
  (if(c7==a1)=true then
   some (.inr (.inr ()))
  else
   some (.inl (Ab (i_t6_4+1))))
 else
  some (.inr (.inl ())))
def Co (a0:Int) (a1:Int):Option (Bool):=
 (fm a0).bind fun r1=>
 (iter (fun(v:Int)=>Za a1 r1 v) FU (0:Int)).bind (Sum.elim (fun o0=>Y9) (fun o1=>some true))
end Go.PL
