/- Functions of the program, as partial functions in Lean, with proofs. -/
import Derived.Test.YtiddnfpjgojoaaaGreatDoorPlEdB
import Derived.Test.YtiddnfpjgojoaaaGreatDoorPlEdF1
import Derived.Test.YtiddnfpjgojoaaaGreatDoorPlEdF14
import Derived.Test.YtiddnfpjgojoaaaGreatDoorPlEdF18
import Derived.Test.YtiddnfpjgojoaaaGreatDoorPlEdF19
import Derived.Test.YtiddnfpjgojoaaaGreatDoorPlEdF4
namespace Go.PL
open Go Go.RowKit Go.Proofs
set_option maxRecDepth 100000
set_option linter.all false
set_option maxHeartbeats 4000000
attribute [local irreducible] Aj BO Bz
def eh:Option (Int×Int):=
 some ((-1:Int),(0:Int))
def RC (a0:List (A1)) (i_t4_4:Int):Option ((Int)⊕(Unit⊕(Int×Int))):=
 (if(decide (i_t4_4<(a0.length:Int)))=true then
  (idx a0 i_t4_4).bind fun e9=>
  (eg e9).bind fun r10=>
  (if(!r10)=true then
   some (.inr (.inr (i_t4_4,(9:Int))))
  else
   (idx a0 i_t4_4).bind fun e12=>
   (QS a0 e12.Name).bind fun r13=>
   (if(decide (r13<i_t4_4))=true then
    some (.inr (.inr (i_t4_4,(6:Int))))
   else
    (idx a0 i_t4_4).bind fun e15=>
    (I7 a0 e15).bind fun r16=>
    (if(!r16)=true then
     some (.inr (.inr (i_t4_4,(7:Int))))
    else
     some (.inl (Ac (i_t4_4+1))))))
 else
  some (.inr (.inl ())))
def Of (a0:List (A1)):Option (Int×Int):=
 (if(decide (256<(a0.length:Int)))=true then
  some ((-1:Int),(5:Int))
 else
  jn (fun(v:Unit)=>eh) (fun jJ2=>
  (iter (fun(v:Int)=>RC a0 v) FU (0:Int)).bind (Sum.elim (fun o0=>jJ2 ()) (fun o1=>some (o1.1,o1.2)))))
def iR:CE TE Tryz.prog I0:=AK [si,ly,YX] Ab Ad 9 9 Tryz.f9 (Tryz.f9.body.getD .skip) (.s .n (.s .n (.j ⟨[],[],[],[]⟩ (.s .n (.l ⟨[0],[(4, .c (.v (.k (.int .i64))))],[],[]⟩ [(1,⟨[],[],[],[]⟩),(0,⟨[],[(2, .c (.v (.k (.int .i64)))),(3, .c (.v (.k (.int .i64))))],[],[]⟩)] .n)) .n))) [.k (.lst 73)] [.k (.int .i64), .k (.int .i64)] (fun x=>Of x.1) Tryz.func9 rfl (by kernel_rfl)
def RE:Option (Bool):=
 some true
def OR (a0:Ao) (i_t7_8:Int):Option ((Int)⊕(Unit⊕Bool)):=
 (if(decide (i_t7_8<(a0.Conts.length:Int)))=true then
  (idx a0.Conts i_t7_8).bind fun e12=>
  (CS a0 e12.Control).bind fun r13=>
  (some (if(!r13)=true then true else decide (a0.NextStamp≤e12.Stamp))).bind fun b14=>
  (gd (b14==false) (DT e12.Until (1:Int) (2:Int))).bind fun r15=>
  (some (if b14=true then true else !r15)).bind fun b16=>
  (gd (b16==false) (dp e12.Objects)).bind fun r17=>
  (some (if b16=true then true else !r17)).bind fun b18=>
  (gd (b18==false) (Ee e12.Mods)).bind fun r19=>
  (some (if b18=true then true else r19==([]:List UInt8))).bind fun b20=>
  (if b20=true then
   some (.inr (.inr false))
  else
   some (.inl (Ac (i_t7_8+1))))
 else
  some (.inr (.inl ())))
def RF (a0:Ao):Option (Bool):=
 jn (fun(v:Unit)=>RE) (fun jJ6=>
 (iter (fun(v:Int)=>OR a0 v) FU (0:Int)).bind (Sum.elim (fun o0=>jJ6 ()) (fun o1=>some o1)))
def OS (a0:Ao) (i_t5_23:Int):Option ((Int)⊕(Unit⊕Bool)):=
 (if(decide (i_t5_23<(a0.Waiting.length:Int)))=true then
  (idx a0.Waiting i_t5_23).bind fun e27=>
  (CS a0 e27.Control).bind fun r28=>
  (some (if(!r28)=true then true else e27.Ability.Kind != 4)).bind fun b29=>
  (gd (b29==false) (PE e27.Ability)).bind fun r30=>
  (some (if b29=true then true else !r30)).bind fun b31=>
  (if b31=true then
   some (.inr (.inr false))
  else
   some (.inl (Ac (i_t5_23+1))))
 else
  some (.inr (.inl ())))
def RG (a0:Ao):Option (Bool):=
 jn (fun(v:Unit)=>RF a0) (fun jJ5=>
 (iter (fun(v:Int)=>OS a0 v) FU (0:Int)).bind (Sum.elim (fun o0=>jJ5 ()) (fun o1=>some o1)))
def OT (i_t3_34:Int):Option ((Int)⊕(Unit⊕Bool)):=
 some (.inl (Ac (i_t3_34+1)))
def OU (a0:Ao) (i_t3_34:Int) (k_t4_43:Int):Option ((Int)⊕(Unit⊕Bool)):=
 (if(decide (k_t4_43<i_t3_34))=true then
  (idx a0.Stack k_t4_43).bind fun e47=>
  (idx a0.Stack i_t3_34).bind fun e48=>
  (if(e47.Id==e48.Id)=true then
   some (.inr (.inr false))
  else
   some (.inl (Ac (k_t4_43+1))))
 else
  some (.inr (.inl ())))
def OV (a0:Ao) (i_t3_34:Int):Option ((Int)⊕(Unit⊕Bool)):=
 (if(decide (i_t3_34<(a0.Stack.length:Int)))=true then
  jn (fun(v:Unit)=>OT i_t3_34) (fun jJ38=>
  (idx a0.Stack i_t3_34).bind fun e39=>
  (RB a0 e39).bind fun r40=>
  (if(!r40)=true then
   some (.inr (.inr false))
  else
   (iter (fun(v:Int)=>OU a0 i_t3_34 v) FU (0:Int)).bind (Sum.elim (fun o0=>jJ38 ()) (fun o1=>some (.inr (.inr o1))))))
 else
  some (.inr (.inl ())))
def Og (a0:Ao):Option (Bool):=
 (some (if(decide (64<(a0.Stack.length:Int)))=true then true else decide (64<(a0.Waiting.length:Int)))).bind fun b1=>
 (some (if b1=true then true else decide (64<(a0.Conts.length:Int)))).bind fun b2=>
 (if b2=true then
  some false
 else
  jn (fun(v:Unit)=>RG a0) (fun jJ4=>
  (iter (fun(v:Int)=>OV a0 v) FU (0:Int)).bind (Sum.elim (fun o0=>jJ4 ()) (fun o1=>some o1))))
def iS:CE TE Tryz.prog I0:=AK [mf,K5,Yf,MM,rV,Iu] Ab Ad 9 25 Tryz.f25 (Tryz.f25.body.getD .skip) (.s .n (.s .n (.j ⟨[1],[],[[1]],[]⟩ (.s .n (.l ⟨[1],[(3, .c (.v (.k (.int .i64))))],[[1]],[]⟩ [(1,⟨[1],[],[[1]],[]⟩),(0,⟨[],[(2, .c (.v (.k (.bool))))],[],[]⟩)] (.s .n (.j ⟨[1,3],[],[[1]],[]⟩ (.s .n (.s .n (.l ⟨[1,3],[(4, .c (.v (.k (.int .i64))))],[[1]],[]⟩ [(3,⟨[1,3],[],[[1]],[]⟩),(0,⟨[],[(2, .c (.v (.k (.bool))))],[],[]⟩)] .n))) .n)))) (.j ⟨[1],[],[[1]],[]⟩ (.s .n (.l ⟨[1],[(5, .c (.v (.k (.int .i64))))],[[1]],[]⟩ [(5,⟨[1],[],[[1]],[]⟩),(0,⟨[],[(2, .c (.v (.k (.bool))))],[],[]⟩)] .n)) (.j ⟨[],[],[],[]⟩ (.s .n (.l ⟨[1],[(7, .c (.v (.k (.int .i64))))],[[1]],[]⟩ [(7,⟨[],[],[],[]⟩),(0,⟨[],[(2, .c (.v (.k (.bool))))],[],[]⟩)] .n)) .n))))) [.s 31] [.k (.bool)] (fun x=>Og x.1) Tryz.func25 rfl (by kernel_rfl)
end Go.PL
