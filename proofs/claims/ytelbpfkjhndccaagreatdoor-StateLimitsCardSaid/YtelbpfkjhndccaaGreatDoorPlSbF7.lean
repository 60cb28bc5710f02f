/- Functions of the program, as partial functions in Lean, with proofs. -/
import Derived.Test.YtelbpfkjhndccaaGreatDoorPlSbB
import Derived.Test.YtelbpfkjhndccaaGreatDoorPlSbF2
import Derived.Test.YtelbpfkjhndccaaGreatDoorPlSbF4
namespace Go.PL
open Go Go.RowKit Go.Proofs
set_option maxRecDepth 100000
set_option linter.all false
set_option maxHeartbeats 4000000
attribute [local irreducible] Ai B4 BL
def NL (s_t3_3:List UInt8):Option ((List UInt8)):=
 (if(s_t3_3==([]:List UInt8))=true then
  some LY
 else
  some s_t3_3)
def Kj (mask_t0_9:Int) (i_t4_11:Int) (s_t3_15:List UInt8):Option ((Int×(List UInt8)×Int)⊕((List UInt8))):=
 some (.inl ((Ab (Int.tdiv mask_t0_9 (2:Int))),s_t3_15,(Ab (i_t4_11+1))))
def Kk (mask_t0_9:Int) (i_t4_11:Int) (s_t3_18:List UInt8):Option ((Int×(List UInt8)×Int)⊕((List UInt8))):=
 (Uu i_t4_11).bind fun r20=>
 (cat s_t3_18 r20).bind fun s21=>
 Kj mask_t0_9 i_t4_11 s21
def Qe (mask_t0_9:Int) (s_t3_10:List UInt8) (i_t4_11:Int):Option ((Int×(List UInt8)×Int)⊕((List UInt8))):=
 (if(decide (i_t4_11<17))=true then
  (if((Int.tmod mask_t0_9 (2:Int))==(1:Int))=true then
   (if(s_t3_10 != ([]:List UInt8))=true then
    (cat s_t3_10 Lg).bind fun s23=>
    Kk mask_t0_9 i_t4_11 s23
   else
    Kk mask_t0_9 i_t4_11 s_t3_10)
  else
   Kj mask_t0_9 i_t4_11 s_t3_10)
 else
  some (.inr s_t3_10))
def Qf (a0:Int):Option ((List UInt8)):=
 (aL a0).bind fun r1=>
 (if(!r1)=true then
  some ([]:List UInt8)
 else
  (iter (fun(v:Int×(List UInt8)×Int)=>Qe v.1 v.2.1 v.2.2) FU (a0,([]:List UInt8),(0:Int))).bind (fun o0=>NL o0))
def H5 (a0:List UInt8) (a1:Ae):Option ((List UInt8)):=
 (if(a1.Kind==0)=true then
  some ([]:List UInt8)
 else
  (du).bind fun r2=>
  (idx r2 a1.Kind).bind fun e3=>
  (cat a0 e3).bind fun s4=>
  (F9 a1.N).bind fun r5=>
  (cat s4 r5).bind fun s6=>
  some s6)
def RV (s_t3_7:List UInt8):Option ((List UInt8)):=
 (if(s_t3_7==([]:List UInt8))=true then
  some P0
 else
  some s_t3_7)
def XF (i_t5_13:Int) (s_t3_17:List UInt8):Option (((List UInt8)×Int)⊕((List UInt8))):=
 some (.inl (s_t3_17,(Ab (i_t5_13+1))))
def Hx (a0:A1) (i_t5_13:Int) (s_t3_21:List UInt8) (k_t6_22:Int):Option (((List UInt8)×Int)⊕((List UInt8))):=
 (idx a0.Color.l i_t5_13).bind fun e25=>
 (if(decide (k_t6_22<e25))=true then
  (ssub L0 i_t5_13 (Ab (i_t5_13+1))).bind fun s27=>
  (cat s_t3_21 s27).bind fun s28=>
  some (.inl (s28,(Ab (k_t6_22+1))))
 else
  some (.inr s_t3_21))
def Kl (a0:A1) (s_t3_12:List UInt8) (i_t5_13:Int):Option (((List UInt8)×Int)⊕((List UInt8))):=
 (if(decide (i_t5_13<5))=true then
  (iter (fun(v:(List UInt8)×Int)=>Hx a0 i_t5_13 v.1 v.2) FU (s_t3_12,(0:Int))).bind (fun o0=>XF i_t5_13 o0)
 else
  some (.inr s_t3_12))
def Ls (a0:A1) (s_t3_5:List UInt8):Option ((List UInt8)):=
 (iter (fun(v:(List UInt8)×Int)=>Kl a0 v.1 v.2) FU (s_t3_5,(0:Int))).bind (fun o0=>RV o0)
def RW (a0:A1) (s_t3_3:List UInt8):Option ((List UInt8)):=
 (if(a0.Generic != 0)=true then
  (F9 a0.Generic).bind fun r30=>
  (cat s_t3_3 r30).bind fun s31=>
  Ls a0 s31
 else
  Ls a0 s_t3_3)
def Hy (a0:A1) (s_t3_34:List UInt8) (i_t4_35:Int):Option (((List UInt8)×Int)⊕((List UInt8))):=
 (if(decide (i_t4_35<a0.X))=true then
  (cat s_t3_34 bW).bind fun s39=>
  some (.inl (s39,(Ab (i_t4_35+1))))
 else
  some (.inr s_t3_34))
def Ux (a0:A1):Option ((List UInt8)):=
 (Xy a0).bind fun r1=>
 (if(!r1)=true then
  some ([]:List UInt8)
 else
  (iter (fun(v:(List UInt8)×Int)=>Hy a0 v.1 v.2) FU (([]:List UInt8),(0:Int))).bind (fun o0=>RW a0 o0))
end Go.PL
