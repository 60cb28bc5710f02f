/- Functions of the program, as partial functions in Lean, with proofs. -/
import Derived.Test.YtekonfaeacligaaGreatDoorPlLsB
import Derived.Test.YtekonfaeacligaaGreatDoorPlLsF0
import Derived.Test.YtekonfaeacligaaGreatDoorPlLsF1
import Derived.Test.YtekonfaeacligaaGreatDoorPlLsF10
import Derived.Test.YtekonfaeacligaaGreatDoorPlLsF11
import Derived.Test.YtekonfaeacligaaGreatDoorPlLsF6
namespace Go.PL
open Go Go.RowKit Go.Proofs
set_option maxRecDepth 100000
set_option linter.all false
set_option maxHeartbeats 4000000
attribute [local irreducible] Ak BW BI
def Pq:Option (Int×Int):=
 some ((-1:Int),(0:Int))
def EH (a0:List (A4)) (abu:Int):Option ((Int)⊕(Unit⊕(Int×Int))):=
 (if(decide (abu<(a0.length:Int))) then
  (idx a0 abu).bind fun e9=>
  (QL e9).bind fun r10=>
  (if !r10 then
   some (.inr (.inr (abu,(9:Int))))
  else
   (idx a0 abu).bind fun e12=>
   (OY a0 e12.Name).bind fun r13=>
   (if decide (r13<abu) then
    some (.inr (.inr (abu,(6:Int))))
   else
    (idx a0 abu).bind fun e15=>
    (If a0 e15).bind fun r16=>
    (if !r16 then
     some (.inr (.inr (abu,(7:Int))))
    else
     some (.inl (Aj (abu+1))))))
 else
  some (.inr (.inl ())))
def Jj (a0:List (A4)):Option (Int×Int):=
 (if(decide (256<(a0.length:Int))) then
  some ((-1:Int),(5:Int))
 else
  jn (fun(v:Unit)=>Pq) (fun jJ2=>
  (iter (fun(v:Int)=>EH a0 v) FU (0:Int)).bind (Sum.elim (fun o0=>jJ2 ()) (fun o1=>some (o1.1,o1.2)))))
def gI:BH:=mC [tQ,kJ,W7] 9 Tryz.f9 (.s .n (.s .n (.j Ho (.s .n (.l ⟨[0],[Ci 4],[],[]⟩ [(1,Ho),(0,⟨[],[Ci 2,Ci 3],[],[]⟩)] .n)) .n))) [.k (.w_ 88)] [.k (.int .i64), .k (.int .i64)] (fun x=>Jj x.1) Tryz.func9 (by kernel_rfl)
def Pr:Option (Bool):=
 some true
def IH (a0:AF) (afn:Int):Option ((Int)⊕(Unit⊕Bool)):=
 (if(decide (afn<(a0.aae.length:Int))) then
  (idx a0.aae afn).bind fun e12=>
  (CB a0 e12.Control).bind fun r13=>
  (some (if !r13 then true else decide (a0.Ti<=e12.abC))).bind fun b14=>
  (gd (b14==false) (Ds e12.ahk (1:Int) (2:Int))).bind fun r15=>
  (some (if b14 then true else !r15)).bind fun b16=>
  (gd (b16==false) (Wd e12.b_)).bind fun r17=>
  (some (if b16 then true else !r17)).bind fun b18=>
  (gd (b18==false) (Cu e12.N_)).bind fun r19=>
  (some (if b18 then true else r19==([]:List UInt8))).bind fun b20=>
  (if b20 then
   some (.inr (.inr false))
  else
   some (.inl (Aj (afn+1))))
 else
  some (.inr (.inl ())))
def Gr (a0:AF):Option (Bool):=
 jn (fun(v:Unit)=>Pr) (fun jJ6=>
 (iter (fun(v:Int)=>IH a0 v) FU (0:Int)).bind (Sum.elim (fun o0=>jJ6 ()) (fun o1=>some o1)))
def II (a0:AF) (aew:Int):Option ((Int)⊕(Unit⊕Bool)):=
 (if(decide (aew<(a0.Td.length:Int))) then
  (idx a0.Td aew).bind fun e27=>
  (CB a0 e27.Control).bind fun r28=>
  (some (if !r28 then true else e27.Tf.Kind != 4)).bind fun b29=>
  (gd (b29==false) (J3 e27.Tf)).bind fun r30=>
  (some (if b29 then true else !r30)).bind fun b31=>
  (if b31 then
   some (.inr (.inr false))
  else
   some (.inl (Aj (aew+1))))
 else
  some (.inr (.inl ())))
def Gs (a0:AF):Option (Bool):=
 jn (fun(v:Unit)=>Gr a0) (fun jJ5=>
 (iter (fun(v:Int)=>II a0 v) FU (0:Int)).bind (Sum.elim (fun o0=>jJ5 ()) (fun o1=>some o1)))
def MY (aaS:Int):Option ((Int)⊕(Unit⊕Bool)):=
 some (.inl (Aj (aaS+1)))
def Fn (a0:AF) (aaS:Int) (aer:Int):Option ((Int)⊕(Unit⊕Bool)):=
 (if decide (aer<aaS) then
  (idx a0.Stack aer).bind fun e47=>
  (idx a0.Stack aaS).bind fun e48=>
  (if e47.Id==e48.Id then
   some (.inr (.inr false))
  else
   some (.inl (Aj (aer+1))))
 else
  some (.inr (.inl ())))
def IJ (a0:AF) (aaS:Int):Option ((Int)⊕(Unit⊕Bool)):=
 (if(decide (aaS<(a0.Stack.length:Int))) then
  jn (fun(v:Unit)=>MY aaS) (fun anQ=>
  (idx a0.Stack aaS).bind fun e39=>
  (Pp a0 e39).bind fun r40=>
  (if !r40 then
   some (.inr (.inr false))
  else
   (iter (fun(v:Int)=>Fn a0 aaS v) FU (0:Int)).bind (Sum.elim (fun o0=>anQ ()) (fun o1=>some (.inr (.inr o1))))))
 else
  some (.inr (.inl ())))
def Mv (a0:AF):Option (Bool):=
 (some (if(decide (64<(a0.Stack.length:Int))) then true else decide (64<(a0.Td.length:Int)))).bind fun b1=>
 (some (if b1 then true else decide (64<(a0.aae.length:Int)))).bind fun b2=>
 (if b2 then
  some false
 else
  jn (fun(v:Unit)=>Gs a0) (fun jJ4=>
  (iter (fun(v:Int)=>IJ a0 v) FU (0:Int)).bind (Sum.elim (fun o0=>jJ4 ()) (fun o1=>some o1))))
def gJ:BH:=mC [la,JT,Wx,LD,tI,HF] 22 Tryz.f22 (.s .n (.s .n (.j ⟨[1],[],[[1]],[]⟩ (.s .n (.l ⟨[1],[Ci 3],[[1]],[]⟩ [(1,⟨[1],[],[[1]],[]⟩),(0,⟨[],[GE 2],[],[]⟩)] (.s .n (.j ⟨[1,3],[],[[1]],[]⟩ (.s .n (.s .n (.l ⟨[1,3],[Ci 4],[[1]],[]⟩ [(3,⟨[1,3],[],[[1]],[]⟩),(0,⟨[],[GE 2],[],[]⟩)] .n))) .n)))) (.j ⟨[1],[],[[1]],[]⟩ (.s .n (.l ⟨[1],[Ci 5],[[1]],[]⟩ [(5,⟨[1],[],[[1]],[]⟩),(0,⟨[],[GE 2],[],[]⟩)] .n)) (.j Ho (.s .n (.l ⟨[1],[Ci 7],[[1]],[]⟩ [(7,Ho),(0,⟨[],[GE 2],[],[]⟩)] .n)) .n))))) [.s 31] [.k (.bool)] (fun x=>Mv x.1) Tryz.func22 (by kernel_rfl)
end Go.PL
