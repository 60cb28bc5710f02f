/- Functions of the program, as partial functions in Lean, with proofs. -/
import Derived.Test.YtekonfaeacligaaGreatDoorPlLsB
import Derived.Test.YtekonfaeacligaaGreatDoorPlLsF1
import Derived.Test.YtekonfaeacligaaGreatDoorPlLsF2
import Derived.Test.YtekonfaeacligaaGreatDoorPlLsF4
namespace Go.PL
open Go Go.RowKit Go.Proofs
set_option maxRecDepth 100000
set_option linter.all false
set_option maxHeartbeats 4000000
attribute [local irreducible] Ak BW BI
def Pn (a0:BG):Option ((List UInt8)):=
 (IE a0).bind fun r1=>
 (if !r1 then
  some ([]:List UInt8)
 else if a0.Kind==1 then
  some fD
 else if a0.Kind==2 then
  (CC a0.N).bind fun r5=>
  (cat VR r5).bind fun s6=>
  some s6
 else if a0.Kind==3 then
  (CC a0.N).bind fun r8=>
  (cat RP r8).bind fun s9=>
  some s9
 else if a0.Kind==4 then
  (cat fE a0.Sub).bind fun s11=>
  some s11
 else if a0.Kind==5 then
  (cat YS a0.Sub).bind fun s13=>
  some s13
 else if a0.Kind==6 then
  (Jh a0.N).bind fun r15=>
  (cat RQ r15).bind fun s16=>
  some s16
 else if a0.Kind==7 then
  (Jh a0.N).bind fun r18=>
  (cat OM r18).bind fun s19=>
  some s19
 else if a0.Kind==8 then
  (LK a0.N).bind fun r21=>
  (cat VS r21).bind fun s22=>
  some s22
 else if a0.Kind==9 then
  (LK a0.N).bind fun r24=>
  (cat H8 r24).bind fun s25=>
  some s25
 else if a0.Kind==10 then
  some pA
 else if a0.Kind==11 then
  (Pl a0.Filter).bind fun r28=>
  (cat MR r28).bind fun s29=>
  (cat s29 mU).bind fun s30=>
  some s30
 else if a0.Kind==12 then
  (CH a0.N).bind fun r32=>
  (cat mV r32).bind fun s33=>
  (cat s33 SX).bind fun s34=>
  (CH a0.M).bind fun r35=>
  (cat s34 r35).bind fun s36=>
  some s36
 else if a0.Kind==13 then
  (CH a0.N).bind fun r38=>
  (cat fK r38).bind fun s39=>
  (cat s39 SX).bind fun s40=>
  (CH a0.M).bind fun r41=>
  (cat s40 r41).bind fun s42=>
  some s42
 else
  some W2)
def kY:BH:=mC [gF,KA,kN,kS,kW,NL] 69 Tryz.f69 .n [.s 100] [.k (.str)] (fun x=>Pn x.1) Tryz.func69 (by kernel_rfl)
def Mt (a0:Bk):Option (Bool):=
 (gd ((a0.Who != 0)==false) (GI a0.Filter)).bind fun r1=>
 (some (if a0.Who != 0 then true else !r1)).bind fun b2=>
 (if b2 then
  some false
 else if a0.Do==5 then
  (some (if a0.N==0 then a0.q_==0 else false)).bind fun b5=>
  (some (if a0.F_==1 then true else a0.F_==2)).bind fun b6=>
  (some (if b6 then true else a0.F_==4)).bind fun b7=>
  (some (if b5 then b7 else false)).bind fun b8=>
  some b8
 else if a0.Do==6 then
  (some (if a0.N==0 then a0.q_==0 else false)).bind fun b10=>
  (some (if b10 then a0.F_==0 else false)).bind fun b11=>
  some b11
 else if a0.Do==7 then
  (some (if a0.F_==0 then decide (1<=a0.N)else false)).bind fun b13=>
  (some (if b13 then decide (a0.N<=99)else false)).bind fun b14=>
  (some (if b14 then decide (0<=a0.q_)else false)).bind fun b15=>
  (some (if b15 then decide (a0.q_<3)else false)).bind fun b16=>
  some b16
 else
  some false)
def gG:BH:=mC [R5] 107 Tryz.f107 .n [.s 68] [.k (.bool)] (fun x=>Mt x.1) Tryz.func107 (by kernel_rfl)
def Po (a0:List (Dr)):Option (Bool):=
 some (decide ((a0.length:Int)<=4))
def EG (a0:List (Dr)) (D_:Int):Option ((Int)⊕(Unit⊕Bool)):=
 (if(decide (D_<(a0.length:Int))) then
  (idx a0 D_).bind fun e7=>
  (Pm e7).bind fun r8=>
  (if !r8 then
   some (.inr (.inr false))
  else
   some (.inl (Aj (D_+1))))
 else
  some (.inr (.inl ())))
def Mu (a0:List (Dr)):Option (Bool):=
 jn (fun(v:Unit)=>Po a0) (fun jJ1=>
 (iter (fun(v:Int)=>EG a0 v) FU (0:Int)).bind (Sum.elim (fun o0=>jJ1 ()) (fun o1=>some o1)))
def gH:BH:=mC [kX] 58 Tryz.f58 (.s .n (.j ⟨[0],[],[],[]⟩ (.s .n (.l ⟨[0],[Ci 3],[],[]⟩ [(1,⟨[0],[],[],[]⟩),(0,⟨[],[GE 2],[],[]⟩)] .n)) .n)) [.k (.w_ 102)] [.k (.bool)] (fun x=>Mu x.1) Tryz.func58 (by kernel_rfl)
end Go.PL
