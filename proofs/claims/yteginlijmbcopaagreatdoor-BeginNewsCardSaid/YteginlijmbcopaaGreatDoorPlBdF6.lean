/- Functions of the program, as partial functions in Lean, with proofs. -/
import Derived.Test.YteginlijmbcopaaGreatDoorPlBdB
import Derived.Test.YteginlijmbcopaaGreatDoorPlBdF0
import Derived.Test.YteginlijmbcopaaGreatDoorPlBdF2
import Derived.Test.YteginlijmbcopaaGreatDoorPlBdF3
import Derived.Test.YteginlijmbcopaaGreatDoorPlBdF4
import Derived.Test.YteginlijmbcopaaGreatDoorPlBdF5
namespace Go.PL
open Go Go.RowKit Go.Proofs
set_option maxRecDepth 100000
set_option linter.all false
set_option maxHeartbeats 4000000
attribute [local irreducible] Ae Cq Cl
def I3 (apD:List (List UInt8)):Option ((List UInt8)):=
 (Gt apD Dq).bind fun r5=>
 some r5
def MN (a0:List (AZ)) (akX:Int) (agC:List (List UInt8)):Option ((Int×(List (List UInt8)))⊕((List (List UInt8))⊕(List UInt8))):=
 (if(decide (akX<(a0.length:Int))) then
  (idx a0 akX).bind fun e15=>
  (HM e15).bind fun r16=>
  (if !r16 then
   some (.inr (.inr ([]:List UInt8)))
  else
   (Um e15).bind fun r18=>
   (app 16 agC ([r18]:List (List UInt8))).bind fun l19=>
   some (.inl ((Aa (akX+1)),l19)))
 else
  some (.inr (.inl agC)))
def Fc (a0:List (AZ)):Option ((List UInt8)):=
 (some (if(decide ((a0.length:Int)<1)) then true else decide (6<(a0.length:Int)))).bind fun b1=>
 (if b1 then
  some ([]:List UInt8)
 else
  jn (fun(v:(List (List UInt8)))=>I3 v) (fun jJ4=>
  (iter (fun(v:Int×(List (List UInt8)))=>MN a0 v.1 v.2) FU ((0:Int),([]:List (List UInt8)))).bind (Sum.elim (fun o0=>jJ4 o0) (fun o1=>some o1))))
def PR:Bb:=mC [pj,sQ,Pp] 205 Tryz.f205 (.s .n (.s .n (.s .n (.j ⟨[],[(3, .c (.c (.e_ [3])))],[],[([3], .row 9)]⟩ (.s .n (.l ⟨[14,15],[(3, .c (.c (.e_ [3]))),Bd 16],[],[([3], .row 9)]⟩ [(1,⟨[],[(3, .c (.c (.e_ [3])))],[],[([3], .row 9)]⟩),(0,⟨[],[Kt 2],[],[]⟩)] .n)) .n)))) [.k (.l_ 148)] [.k (.str)] (fun x=>Fc x.1) Tryz.func205 (by kernel_rfl)
def UA (a0:AZ):Option ((List UInt8)):=
 (PO a0).bind fun r1=>
 (if !r1 then
  some ([]:List UInt8)
 else if a0.Kind==1 then
  some Xq
 else if a0.Kind==2 then
  (Dj a0.N).bind fun r5=>
  (cat Np r5).bind fun s6=>
  some s6
 else if a0.Kind==3 then
  (Dj a0.N).bind fun r8=>
  (cat Lo r8).bind fun s9=>
  some s9
 else if a0.Kind==4 then
  (cat TA a0.Sub).bind fun s11=>
  some s11
 else if a0.Kind==5 then
  (cat Qj a0.Sub).bind fun s13=>
  some s13
 else if a0.Kind==6 then
  (MK a0.N).bind fun r15=>
  (cat Lp r15).bind fun s16=>
  some s16
 else if a0.Kind==7 then
  (MK a0.N).bind fun r18=>
  (cat Jm r18).bind fun s19=>
  some s19
 else if a0.Kind==8 then
  (PF a0.N).bind fun r21=>
  (cat Nu r21).bind fun s22=>
  some s22
 else if a0.Kind==9 then
  (PF a0.N).bind fun r24=>
  (cat Ee r24).bind fun s25=>
  some s25
 else if a0.Kind==10 then
  some ib
 else if a0.Kind==11 then
  (Uz a0.Filter).bind fun r28=>
  (cat HZ r28).bind fun s29=>
  (cat s29 YK).bind fun s30=>
  some s30
 else if a0.Kind==12 then
  (Dw a0.N).bind fun r32=>
  (cat YL r32).bind fun s33=>
  (cat s33 Lq).bind fun s34=>
  (Dw a0.M).bind fun r35=>
  (cat s34 r35).bind fun s36=>
  some s36
 else if a0.Kind==13 then
  (Dw a0.N).bind fun r38=>
  (cat TB r38).bind fun s39=>
  (cat s39 Lq).bind fun s40=>
  (Dw a0.M).bind fun r41=>
  (cat s40 r41).bind fun s42=>
  some s42
 else
  some QR)
def sU:Bb:=mC [pq,Oj,sK,sM,sR,R4] 144 Tryz.f144 .n [.s 148] [.k (.str)] (fun x=>UA x.1) Tryz.func144 (by kernel_rfl)
def Qw (a0:Au):Option (Bool):=
 (gd ((a0.Who != 0)==false) (JM a0.Filter)).bind fun r1=>
 (some (if a0.Who != 0 then true else !r1)).bind fun b2=>
 (if b2 then
  some false
 else if a0.Do==5 then
  (some (if a0.N==0 then a0.r_==0 else false)).bind fun b5=>
  (some (if a0.AT==1 then true else a0.AT==2)).bind fun b6=>
  (some (if b6 then true else a0.AT==4)).bind fun b7=>
  (some (if b5 then b7 else false)).bind fun b8=>
  some b8
 else if a0.Do==6 then
  (some (if a0.N==0 then a0.r_==0 else false)).bind fun b10=>
  (some (if b10 then a0.AT==0 else false)).bind fun b11=>
  some b11
 else if a0.Do==7 then
  (some (if a0.AT==0 then decide (1<=a0.N)else false)).bind fun b13=>
  (some (if b13 then decide (a0.N<=99)else false)).bind fun b14=>
  (some (if b14 then decide (0<=a0.r_)else false)).bind fun b15=>
  (some (if b15 then decide (a0.r_<3)else false)).bind fun b16=>
  some b16
 else
  some false)
def pt:Bb:=mC [XG] 188 Tryz.f188 .n [.s 119] [.k (.bool)] (fun x=>Qw x.1) Tryz.func188 (by kernel_rfl)
def UB (a0:List (Da)):Option (Bool):=
 some (decide ((a0.length:Int)<=4))
def Hb (a0:List (Da)) (alB:Int):Option ((Int)⊕(Unit⊕Bool)):=
 (if(decide (alB<(a0.length:Int))) then
  (idx a0 alB).bind fun e7=>
  (KR e7).bind fun r8=>
  (if !r8 then
   some (.inr (.inr false))
  else
   some (.inl (Aa (alB+1))))
 else
  some (.inr (.inl ())))
def Qx (a0:List (Da)):Option (Bool):=
 jn (fun(v:Unit)=>UB a0) (fun jJ1=>
 (iter (fun(v:Int)=>Hb a0 v) FU (0:Int)).bind (Sum.elim (fun o0=>jJ1 ()) (fun o1=>some o1)))
def pv:Bb:=mC [sS] 141 Tryz.f141 (.s .n (.j ⟨[0],[],[],[]⟩ (.s .n (.l ⟨[0],[Bd 3],[],[]⟩ [(1,⟨[0],[],[],[]⟩),(0,⟨[],[ES 2],[],[]⟩)] .n)) .n)) [.k (.l_ 184)] [.k (.bool)] (fun x=>Qx x.1) Tryz.func141 (by kernel_rfl)
end Go.PL
