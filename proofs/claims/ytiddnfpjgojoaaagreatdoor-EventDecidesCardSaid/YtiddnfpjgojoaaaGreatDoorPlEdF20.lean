/- Functions of the program, as partial functions in Lean, with proofs. -/
import Derived.Test.YtiddnfpjgojoaaaGreatDoorPlEdB
import Derived.Test.YtiddnfpjgojoaaaGreatDoorPlEdF1
import Derived.Test.YtiddnfpjgojoaaaGreatDoorPlEdF14
import Derived.Test.YtiddnfpjgojoaaaGreatDoorPlEdF18
import Derived.Test.YtiddnfpjgojoaaaGreatDoorPlEdF19
import Derived.Test.YtiddnfpjgojoaaaGreatDoorPlEdF4
namespace Go.PL
open Go Go.RowKit Go.Proofs
set_option maxRecDepth 100000
set_option linter.all false
set_option maxHeartbeats 4000000
attribute [local irreducible] Aj BM By
def dT:Option (Int×Int):=
 some ((-1:Int),(0:Int))
def Rx (a0:List (A0)) (i_t4_4:Int):Option ((Int)⊕(Unit⊕(Int×Int))):=
 (if(decide (i_t4_4<(a0.length:Int)))=true then
  (idx a0 i_t4_4).bind fun e9=>
  (dR e9).bind fun r10=>
  (if(!r10)=true then
   some (.inr (.inr (i_t4_4,(9:Int))))
  else
   (idx a0 i_t4_4).bind fun e12=>
   (QN a0 e12.Name).bind fun r13=>
   (if(decide (r13<i_t4_4))=true then
    some (.inr (.inr (i_t4_4,(6:Int))))
   else
    (idx a0 i_t4_4).bind fun e15=>
    (IY a0 e15).bind fun r16=>
    (if(!r16)=true then
     some (.inr (.inr (i_t4_4,(7:Int))))
    else
     some (.inl (Ac (i_t4_4+1))))))
 else
  some (.inr (.inl ())))
def N4 (a0:List (A0)):Option (Int×Int):=
 (if(decide (256<(a0.length:Int)))=true then
  some ((-1:Int),(5:Int))
 else
  jn (fun(v:Unit)=>dT) (fun jJ2=>
  (iter (fun(v:Int)=>Rx a0 v) FU (0:Int)).bind (Sum.elim (fun o0=>jJ2 ()) (fun o1=>some (o1.1,o1.2)))))
def iy:CE TE Tryz.prog I0:=AI [rS,k7,YI] Ab Ad 9 9 Tryz.f9 (Tryz.f9.body.getD .skip) (.s .n (.s .n (.j ⟨[],[],[],[]⟩ (.s .n (.l ⟨[0],[(4, .c (.v (.k (.int .i64))))],[],[]⟩ [(1,⟨[],[],[],[]⟩),(0,⟨[],[(2, .c (.v (.k (.int .i64)))),(3, .c (.v (.k (.int .i64))))],[],[]⟩)] .n)) .n))) [.k (.lst 73)] [.k (.int .i64), .k (.int .i64)] (fun x=>N4 x.1) Tryz.func9 rfl (by kernel_rfl)
def Ry:Option (Bool):=
 some true
def OG (a0:Ao) (i_t7_8:Int):Option ((Int)⊕(Unit⊕Bool)):=
 (if(decide (i_t7_8<(a0.Conts.length:Int)))=true then
  (idx a0.Conts i_t7_8).bind fun e12=>
  (CP a0 e12.Control).bind fun r13=>
  (some (if(!r13)=true then true else decide (a0.NextStamp≤e12.Stamp))).bind fun b14=>
  (gd (b14==false) (DQ e12.Until (1:Int) (2:Int))).bind fun r15=>
  (some (if b14=true then true else !r15)).bind fun b16=>
  (gd (b16==false) (cZ e12.Objects)).bind fun r17=>
  (some (if b16=true then true else !r17)).bind fun b18=>
  (gd (b18==false) (Ec e12.Mods)).bind fun r19=>
  (some (if b18=true then true else r19==([]:List UInt8))).bind fun b20=>
  (if b20=true then
   some (.inr (.inr false))
  else
   some (.inl (Ac (i_t7_8+1))))
 else
  some (.inr (.inl ())))
def Rz (a0:Ao):Option (Bool):=
 jn (fun(v:Unit)=>Ry) (fun jJ6=>
 (iter (fun(v:Int)=>OG a0 v) FU (0:Int)).bind (Sum.elim (fun o0=>jJ6 ()) (fun o1=>some o1)))
def OH (a0:Ao) (i_t5_23:Int):Option ((Int)⊕(Unit⊕Bool)):=
 (if(decide (i_t5_23<(a0.Waiting.length:Int)))=true then
  (idx a0.Waiting i_t5_23).bind fun e27=>
  (CP a0 e27.Control).bind fun r28=>
  (some (if(!r28)=true then true else e27.Ability.Kind != 4)).bind fun b29=>
  (gd (b29==false) (Py e27.Ability)).bind fun r30=>
  (some (if b29=true then true else !r30)).bind fun b31=>
  (if b31=true then
   some (.inr (.inr false))
  else
   some (.inl (Ac (i_t5_23+1))))
 else
  some (.inr (.inl ())))
def RA (a0:Ao):Option (Bool):=
 jn (fun(v:Unit)=>Rz a0) (fun jJ5=>
 (iter (fun(v:Int)=>OH a0 v) FU (0:Int)).bind (Sum.elim (fun o0=>jJ5 ()) (fun o1=>some o1)))
def OI (i_t3_34:Int):Option ((Int)⊕(Unit⊕Bool)):=
 some (.inl (Ac (i_t3_34+1)))
def OJ (a0:Ao) (i_t3_34:Int) (k_t4_43:Int):Option ((Int)⊕(Unit⊕Bool)):=
 (if(decide (k_t4_43<i_t3_34))=true then
  (idx a0.Stack k_t4_43).bind fun e47=>
  (idx a0.Stack i_t3_34).bind fun e48=>
  (if(e47.Id==e48.Id)=true then
   some (.inr (.inr false))
  else
   some (.inl (Ac (k_t4_43+1))))
 else
  some (.inr (.inl ())))
def OL (a0:Ao) (i_t3_34:Int):Option ((Int)⊕(Unit⊕Bool)):=
 (if(decide (i_t3_34<(a0.Stack.length:Int)))=true then
  jn (fun(v:Unit)=>OI i_t3_34) (fun jJ38=>
  (idx a0.Stack i_t3_34).bind fun e39=>
  (Rw a0 e39).bind fun r40=>
  (if(!r40)=true then
   some (.inr (.inr false))
  else
   (iter (fun(v:Int)=>OJ a0 i_t3_34 v) FU (0:Int)).bind (Sum.elim (fun o0=>jJ38 ()) (fun o1=>some (.inr (.inr o1))))))
 else
  some (.inr (.inl ())))
def N5 (a0:Ao):Option (Bool):=
 (some (if(decide (64<(a0.Stack.length:Int)))=true then true else decide (64<(a0.Waiting.length:Int)))).bind fun b1=>
 (some (if b1=true then true else decide (64<(a0.Conts.length:Int)))).bind fun b2=>
 (if b2=true then
  some false
 else
  jn (fun(v:Unit)=>RA a0) (fun jJ4=>
  (iter (fun(v:Int)=>OL a0 v) FU (0:Int)).bind (Sum.elim (fun o0=>jJ4 ()) (fun o1=>some o1))))
def iz:CE TE Tryz.prog I0:=AI [lP,KS,X0,MC,rH,Im] Ab Ad 9 25 Tryz.f25 (Tryz.f25.body.getD .skip) (.s .n (.s .n (.j ⟨[1],[],[[1]],[]⟩ (.s .n (.l ⟨[1],[(3, .c (.v (.k (.int .i64))))],[[1]],[]⟩ [(1,⟨[1],[],[[1]],[]⟩),(0,⟨[],[(2, .c (.v (.k (.bool))))],[],[]⟩)] (.s .n (.j ⟨[1,3],[],[[1]],[]⟩ (.s .n (.s .n (.l ⟨[1,3],[(4, .c (.v (.k (.int .i64))))],[[1]],[]⟩ [(3,⟨[1,3],[],[[1]],[]⟩),(0,⟨[],[(2, .c (.v (.k (.bool))))],[],[]⟩)] .n))) .n)))) (.j ⟨[1],[],[[1]],[]⟩ (.s .n (.l ⟨[1],[(5, .c (.v (.k (.int .i64))))],[[1]],[]⟩ [(5,⟨[1],[],[[1]],[]⟩),(0,⟨[],[(2, .c (.v (.k (.bool))))],[],[]⟩)] .n)) (.j ⟨[],[],[],[]⟩ (.s .n (.l ⟨[1],[(7, .c (.v (.k (.int .i64))))],[[1]],[]⟩ [(7,⟨[],[],[],[]⟩),(0,⟨[],[(2, .c (.v (.k (.bool))))],[],[]⟩)] .n)) .n))))) [.s 31] [.k (.bool)] (fun x=>N5 x.1) Tryz.func25 rfl (by kernel_rfl)
end Go.PL
