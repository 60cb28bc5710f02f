/- Functions of the program, as partial functions in Lean, with proofs. -/
import Derived.Test.YtekonfaeacligaaGreatDoorPlLsB
import Derived.Test.YtekonfaeacligaaGreatDoorPlLsF0
import Derived.Test.YtekonfaeacligaaGreatDoorPlLsF1
import Derived.Test.YtekonfaeacligaaGreatDoorPlLsF10
import Derived.Test.YtekonfaeacligaaGreatDoorPlLsF2
import Derived.Test.YtekonfaeacligaaGreatDoorPlLsF3
namespace Go.PL
open Go Go.RowKit Go.Proofs
set_option maxRecDepth 100000
set_option linter.all false
set_option maxHeartbeats 4000000
attribute [local irreducible] Ak BW BI
def J4 (a0:A4) (agx:Int):Option (Bool):=
 (Wb a0).bind fun r22=>
 (if r22 then
  (some (if !a0.Token then a0.Keys==0 else false)).bind fun b24=>
  (some (if b24 then(a0.i_.length:Int)==1 else false)).bind fun b25=>
  (some (if b25 then agx==1 else false)).bind fun b26=>
  some b26
 else
  (some (if !a0.Token then(KG .i64 a0.acd.Types (32:Int))==(0:Int)else false)).bind fun b27=>
  (some (if b27 then true else a0.ago==(⟨0,0,(⟨0,0,0,0,0⟩:A5 (Int))⟩:AJ))).bind fun b28=>
  (some (if agx==0 then b28 else false)).bind fun b29=>
  some b29)
def Wy (acO:Int) (aen:Int):Option ((Int×Int)⊕(Int⊕Bool)):=
 some (.inl (aen,(Aj (acO+1))))
def HG (a0:A4) (ae4:Int) (acO:Int):Option ((Int×Int)⊕(Int⊕Bool)):=
 (if(decide (acO<(a0.i_.length:Int))) then
  jn (fun(v:Int)=>Wy acO v) (fun agL=>
  (idx a0.i_ acO).bind fun e40=>
  (J3 e40).bind fun r41=>
  (if !r41 then
   some (.inr (.inr false))
  else
   (idx a0.i_ acO).bind fun e43=>
   (if e43.Kind==2 then
    agL (Aj (ae4+1))
   else
    agL ae4)))
 else
  some (.inr (.inl ae4)))
def QL (a0:A4):Option (Bool):=
 (QI a0.Name).bind fun r1=>
 (gd ((!r1)==false) (QF a0.ago)).bind fun r2=>
 (some (if !r1 then true else !r2)).bind fun b3=>
 (gd (b3==false) (Wm a0.acd)).bind fun r4=>
 (some (if b3 then true else !r4)).bind fun b5=>
 (gd (b5==false) (Lu a0.Keys)).bind fun r6=>
 (some (if b5 then true else !r6)).bind fun b7=>
 (some (if b7 then true else decide (a0.Color<0))).bind fun b8=>
 (some (if b8 then true else decide (31<a0.Color))).bind fun b9=>
 (if b9 then
  some false
 else
  (some (if decide (a0.Power<0) then true else decide (99<a0.Power))).bind fun b11=>
  (some (if b11 then true else decide (a0.aa9<0))).bind fun b12=>
  (some (if b12 then true else decide (99<a0.aa9))).bind fun b13=>
  (gd (b13==false) (Gd a0)).bind fun r14=>
  (some (if a0.Power != 0 then true else a0.aa9 != 0)).bind fun b15=>
  (some (if !r14 then b15 else false)).bind fun b16=>
  (some (if b13 then true else b16)).bind fun b17=>
  (some (if b17 then true else decide (8<(a0.i_.length:Int)))).bind fun b18=>
  (if b18 then
   some false
  else
   jn (fun(v:Int)=>J4 a0 v) (fun agN=>
   (iter (fun(v:Int×Int)=>HG a0 v.1 v.2) FU ((0:Int),(0:Int))).bind (Sum.elim (fun o0=>agN o0) (fun o1=>some o1)))))
def tQ:BH:=mC [Wf,V1,tK,fY,V2,Wx,kH] 15 Tryz.f15 (.s .n (.s .n (.s .n (.s .n (.j ⟨[1],[Ci 3],[[1]],[]⟩ (.s .n (.l ⟨[1],[Ci 3,Ci 4],[[1]],[]⟩ [(1,⟨[1],[Ci 3],[[1]],[]⟩),(0,⟨[],[GE 2],[],[]⟩)] (.s .n (.j ⟨[1,4],[Ci 3],[[1]],[]⟩ .n .n)))) .n))))) [.s 88] [.k (.bool)] (fun x=>QL x.1) Tryz.func15 (by kernel_rfl)
def Pp (a0:AF) (a1:MP):Option (Bool):=
 (Ds a1.Id (1:Int) (Aj (a0.aaE - 1))).bind fun r1=>
 (gd ((!r1)==false) (Ds a1.X (0:Int) (1000000:Int))).bind fun r2=>
 (some (if !r1 then true else !r2)).bind fun b3=>
 (some (if b3 then true else decide (4<(a1.aaU.length:Int)))).bind fun b4=>
 (gd (b4==false) (CB a0 a1.Control)).bind fun r5=>
 (some (if b4 then true else !r5)).bind fun b6=>
 (if b6 then
  some false
 else
  (HC a0 a1.Id).bind fun r8=>
  (if a1.Kind==1 then
   (LP a1.Tf (⟨0,(⟨0,0,0,0,0,0,0,[],0,0,(⟨0,0⟩:Ag),(⟨0,0⟩:Ag),(⟨0,0⟩:Ag)⟩:Am),([]:List (BG)),(⟨(⟨0,0,(⟨0,0,0,0,0⟩:A5 (Int))⟩:AJ),false,false,0⟩:CL),false,(⟨0,0,(⟨0,0,0,0,0,0,0,[],0,0,(⟨0,0⟩:Ag),(⟨0,0⟩:Ag),(⟨0,0⟩:Ag)⟩:Am)⟩:Bu),false,([]:List (Dr)),([]:List (AI)),(⟨0,0,(⟨0,0,0,0,0,0,0,[],0,0,(⟨0,0⟩:Ag),(⟨0,0⟩:Ag),(⟨0,0⟩:Ag)⟩:Am),0,0,0,0⟩:Bk)⟩:AB)).bind fun r10=>
   (some (if a1.Source==a1.Id then r8.2 else false)).bind fun b11=>
   (some (if b11 then r8.1.F_==5 else false)).bind fun b12=>
   (gd ((b12==true)&&(r10==false)) (J3 a1.Tf)).bind fun r13=>
   (some (if r10 then true else r13)).bind fun b14=>
   (some (if b12 then b14 else false)).bind fun b15=>
   some b15
  else
   (some (if a1.Kind==2 then !r8.2 else false)).bind fun b16=>
   (gd (b16==true) (J3 a1.Tf)).bind fun r17=>
   (some (if b16 then r17 else false)).bind fun b18=>
   some b18))
def la:BH:=mC [LD,JT,O7,kV,Wx] 39 Tryz.f39 .n [.s 31, .s 76] [.k (.bool)] (fun x=>Pp x.1 x.2.1) Tryz.func39 (by kernel_rfl)
end Go.PL
