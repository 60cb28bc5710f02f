/- Functions of the program, as partial functions in Lean, with proofs. -/
import Derived.Test.YtekonfaeacligaaGreatDoorPlLsB
import Derived.Test.YtekonfaeacligaaGreatDoorPlLsF0
import Derived.Test.YtekonfaeacligaaGreatDoorPlLsF4
import Derived.Test.YtekonfaeacligaaGreatDoorPlLsF5
namespace Go.PL
open Go Go.RowKit Go.Proofs
set_option maxRecDepth 100000
set_option linter.all false
set_option maxHeartbeats 4000000
attribute [local irreducible] Ak BW BI
def KB (agD:List UInt8):Option ((List UInt8)):=
 some agD
def Fg (a0:List (BG)) (aal:Int) (af8:List UInt8):Option (((List UInt8)×Int)⊕((List UInt8)⊕(List UInt8))):=
 (idx a0 aal).bind fun e18=>
 (Pn e18).bind fun r19=>
 (cat af8 r19).bind fun s20=>
 some (.inl (s20,(Aj (aal+1))))
def Ji (a0:List (BG)) (ado:List UInt8) (aal:Int):Option (((List UInt8)×Int)⊕((List UInt8)⊕(List UInt8))):=
 (if(decide (aal<(a0.length:Int))) then
  (idx a0 aal).bind fun e13=>
  (IE e13).bind fun r14=>
  (if !r14 then
   some (.inr (.inr ([]:List UInt8)))
  else
   jn (fun(v:(List UInt8))=>Fg a0 aal v) (fun ahR=>
   (if decide (0<aal) then
    (cat ado YR).bind fun s22=>
    ahR s22
   else
    ahR ado)))
 else
  some (.inr (.inl ado)))
def Cu (a0:List (BG)):Option ((List UInt8)):=
 (some (if((a0.length:Int)==0) then true else decide (6<(a0.length:Int)))).bind fun b1=>
 (if b1 then
  some ([]:List UInt8)
 else
  jn (fun(v:(List UInt8))=>KB v) (fun jJ4=>
  (iter (fun(v:(List UInt8)×Int)=>Ji a0 v.1 v.2) FU (([]:List UInt8),(0:Int))).bind (Sum.elim (fun o0=>jJ4 o0) (fun o1=>some o1))))
def HF:BH:=mC [gF,kY] 41 Tryz.f41 (.s .n (.s .n (.s .n (.j ⟨[],[Md 3],[],[]⟩ (.s .n (.l ⟨[0],[Md 3,Ci 4],[],[]⟩ [(1,⟨[],[Md 3],[],[]⟩),(0,⟨[],[Md 2],[],[]⟩)] (.s .n (.s (.s .n (.j ⟨[0,4],[Md 3],[],[]⟩ .n .n)) .n)))) .n)))) [.k (.w_ 100)] [.k (.str)] (fun x=>Cu x.1) Tryz.func41 (by kernel_rfl)
def Wq (a0:Bk) (b6:Bool) (agy:Bool):Option (Bool):=
 (if agy then
  (some (if b6 then decide (0<=a0.Who)else false)).bind fun b29=>
  (some (if b29 then decide (a0.Who<=2)else false)).bind fun b30=>
  (some (if b30 then a0.Filter==(⟨0,0,0,0,0,0,0,[],0,0,(⟨0,0⟩:Ag),(⟨0,0⟩:Ag),(⟨0,0⟩:Ag)⟩:Am)else false)).bind fun b31=>
  some b31
 else
  some false)
def bJ (a0:Bk):Option (Bool):=
 (if a0.On==2 then
  (Mt a0).bind fun r2=>
  some r2
 else
  (Mm a0).bind fun r3=>
  (if !r3 then
   some false
  else
   (some (if a0.Do==3 then true else a0.Do==4)).bind fun b5=>
   (some (if b5 then true else a0.Do==8)).bind fun b6=>
   (if a0.On==1 then
    (some (if a0.Do != 1 then a0.Do != 2 else false)).bind fun b8=>
    (some (if b8 then a0.Do != 3 else false)).bind fun b9=>
    (some (if b9 then a0.Do != 4 else false)).bind fun b10=>
    (if b10 then
     some false
    else
     (gd ((a0.Who==0)==true) (GI a0.Filter)).bind fun r12=>
     (some (if a0.Who==0 then r12 else false)).bind fun b13=>
     (some (if a0.Who==1 then true else a0.Who==2)).bind fun b14=>
     (some (if b14 then a0.Filter==(⟨0,0,0,0,0,0,0,[],0,0,(⟨0,0⟩:Ag),(⟨0,0⟩:Ag),(⟨0,0⟩:Ag)⟩:Am)else false)).bind fun b15=>
     (some (if b13 then true else b15)).bind fun b16=>
     some b16)
   else if a0.On==8 then
    (some (if b6 then a0.Who==0 else false)).bind fun b18=>
    (gd (b18==true) (GI a0.Filter)).bind fun r19=>
    (some (if b18 then r19 else false)).bind fun b20=>
    some b20
   else if a0.On==3 then
    (some (if a0.Do==4 then true else a0.Do==8)).bind fun b22=>
    (some (if b22 then decide (0<=a0.Who)else false)).bind fun b23=>
    (some (if b23 then decide (a0.Who<=2)else false)).bind fun b24=>
    (some (if b24 then a0.Filter==(⟨0,0,0,0,0,0,0,[],0,0,(⟨0,0⟩:Ag),(⟨0,0⟩:Ag),(⟨0,0⟩:Ag)⟩:Am)else false)).bind fun b25=>
    some b25
   else
    jn (fun(v:Bool)=>Wq a0 b6 v) (fun agM=>
    (if a0.On==4 then
     agM (a0.On==4)
    else if a0.On==5 then
     agM (a0.On==5)
    else
     agM (a0.On==10))))))
def tO:BH:=mC [gG,gi,R5] 57 Tryz.f57 (.s .n (.s .n (.s .n (.s .n (.s .n (.s (.s .n (.s .n (.i .n (.s .n (.i .n (.s .n (.i .n (.j ⟨[1,3,4],[GE 109],[[1]],[]⟩ .n .n)))))))) .n)))))) [.s 68] [.k (.bool)] (fun x=>bJ x.1) Tryz.func57 (by kernel_rfl)
end Go.PL
