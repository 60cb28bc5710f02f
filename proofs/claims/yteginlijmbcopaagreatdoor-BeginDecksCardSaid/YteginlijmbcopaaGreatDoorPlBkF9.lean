/- Functions of the program, as partial functions in Lean, with proofs. -/
import Derived.Test.YteginlijmbcopaaGreatDoorPlBkB
import Derived.Test.YteginlijmbcopaaGreatDoorPlBkF0
import Derived.Test.YteginlijmbcopaaGreatDoorPlBkF3
import Derived.Test.YteginlijmbcopaaGreatDoorPlBkF4
import Derived.Test.YteginlijmbcopaaGreatDoorPlBkF5
import Derived.Test.YteginlijmbcopaaGreatDoorPlBkF6
import Derived.Test.YteginlijmbcopaaGreatDoorPlBkF8
namespace Go.PL
open Go Go.RowKit Go.Proofs
set_option maxRecDepth 100000
set_option linter.all false
set_option maxHeartbeats 4000000
attribute [local irreducible] Ad Cx Cr
def He (a0:AL):Option (Bool):=
 (gd ((a0.Kind != 3)==false) (Dj a0.ac4)).bind fun r16=>
 (some (if a0.Kind != 3 then true else r16 != ([]:List UInt8))).bind fun b17=>
 (gd ((b17==true)&&((a0.Kind != 4)==false)) (HW a0.abb)).bind fun r18=>
 (some (if a0.Kind != 4 then true else r18)).bind fun b19=>
 (some (if b17 then b19 else false)).bind fun b20=>
 some b20
def EY (a0:AL) (agT:Int):Option ((Int)⊕(Unit⊕Bool)):=
 (if(decide (agT<(a0.G_.length:Int))) then
  (idx a0.G_ agT).bind fun e26=>
  (JP e26 (a0.abd.length:Int)).bind fun r27=>
  (if !r27 then
   some (.inr (.inr false))
  else
   some (.inl (Ac (agT+1))))
 else
  some (.inr (.inl ())))
def KM (a0:AL):Option (Bool):=
 jn (fun(v:Unit)=>He a0) (fun ahF=>
 (iter (fun(v:Int)=>EY a0 v) FU (0:Int)).bind (Sum.elim (fun o0=>ahF ()) (fun o1=>some o1)))
def EZ (a0:AL) (agW:Int):Option ((Int)⊕(Unit⊕Bool)):=
 (if(decide (agW<(a0.abd.length:Int))) then
  (idx a0.abd agW).bind fun e34=>
  (Fo e34).bind fun r35=>
  (if(r35==([]:List UInt8)) then
   some (.inr (.inr false))
  else
   some (.inl (Ac (agW+1))))
 else
  some (.inr (.inl ())))
def LV (a0:AL) (ant:Int) (akW:Aq) (ame:CB) (ans:Bool) (ajS:BB) (aoY:Bool) (ajT:Ay):Option (Bool):=
 (Ff a0 (⟨ant,akW,([]:List (B4)),ame,ans,ajS,aoY,a0.abd,a0.G_,ajT⟩:AL)).bind fun r9=>
 (some (if !r9 then true else decide (4<(a0.abd.length:Int)))).bind fun b10=>
 (some (if b10 then true else(a0.G_.length:Int)==0)).bind fun b11=>
 (some (if b11 then true else decide (8<(a0.G_.length:Int)))).bind fun b12=>
 (if b12 then
  some false
 else
  jn (fun(v:Unit)=>KM a0) (fun afu=>
  (iter (fun(v:Int)=>EZ a0 v) FU (0:Int)).bind (Sum.elim (fun o0=>afu ()) (fun o1=>some o1))))
def H7 (a0:AL):Option (Bool):=
 jn (fun(v:Int×Aq×CB×Bool×BB×Bool×Ay)=>LV a0 v.1 v.2.1 v.2.2.1 v.2.2.2.1 v.2.2.2.2.1 v.2.2.2.2.2.1 v.2.2.2.2.2.2) (fun jJ8=>
 (if a0.Kind==1 then
  (Ff a0 (⟨a0.Kind,a0.Filter,a0.abn,(⟨(⟨0,0,(⟨0,0,0,0,0⟩:A5 (Int))⟩:AG),false,false,0⟩:CB),false,(⟨0,0,(⟨0,0,0,0,0,0,0,[],0,0,(⟨0,0⟩:Aj),(⟨0,0⟩:Aj),(⟨0,0⟩:Aj)⟩:Aq)⟩:BB),false,([]:List (Ft)),([]:List (AA)),(⟨0,0,(⟨0,0,0,0,0,0,0,[],0,0,(⟨0,0⟩:Aj),(⟨0,0⟩:Aj),(⟨0,0⟩:Aj)⟩:Aq),0,0,0,0⟩:Ay)⟩:AL)).bind fun r38=>
  (gd (r38==true) (Ct a0.Filter)).bind fun r39=>
  (some (if r38 then r39 else false)).bind fun b40=>
  (some (if b40 then a0.Filter.B_==0 else false)).bind fun b41=>
  (gd (b41==true) (Fp a0.abn)).bind fun r42=>
  (some (if b41 then r42 != ([]:List UInt8)else false)).bind fun b43=>
  some b43
 else if a0.Kind==5 then
  (Ff a0 (⟨a0.Kind,(⟨0,0,0,0,0,0,0,[],0,0,(⟨0,0⟩:Aj),(⟨0,0⟩:Aj),(⟨0,0⟩:Aj)⟩:Aq),([]:List (B4)),(⟨(⟨0,0,(⟨0,0,0,0,0⟩:A5 (Int))⟩:AG),false,false,0⟩:CB),false,(⟨0,0,(⟨0,0,0,0,0,0,0,[],0,0,(⟨0,0⟩:Aj),(⟨0,0⟩:Aj),(⟨0,0⟩:Aj)⟩:Aq)⟩:BB),false,([]:List (Ft)),([]:List (AA)),a0.Replace⟩:AL)).bind fun r45=>
  (gd (r45==true) (HU a0.Replace)).bind fun r46=>
  (some (if r45 then r46 else false)).bind fun b47=>
  some b47
 else if a0.Kind==2 then
  jJ8 (a0.Kind,(⟨0,0,0,0,0,0,0,[],0,0,(⟨0,0⟩:Aj),(⟨0,0⟩:Aj),(⟨0,0⟩:Aj)⟩:Aq),(⟨(⟨0,0,(⟨0,0,0,0,0⟩:A5 (Int))⟩:AG),false,false,0⟩:CB),false,(⟨0,0,(⟨0,0,0,0,0,0,0,[],0,0,(⟨0,0⟩:Aj),(⟨0,0⟩:Aj),(⟨0,0⟩:Aj)⟩:Aq)⟩:BB),false,(⟨0,0,(⟨0,0,0,0,0,0,0,[],0,0,(⟨0,0⟩:Aj),(⟨0,0⟩:Aj),(⟨0,0⟩:Aj)⟩:Aq),0,0,0,0⟩:Ay))
 else if a0.Kind==3 then
  jJ8 (a0.Kind,(⟨0,0,0,0,0,0,0,[],0,0,(⟨0,0⟩:Aj),(⟨0,0⟩:Aj),(⟨0,0⟩:Aj)⟩:Aq),a0.ac4,a0.ah9,(⟨0,0,(⟨0,0,0,0,0,0,0,[],0,0,(⟨0,0⟩:Aj),(⟨0,0⟩:Aj),(⟨0,0⟩:Aj)⟩:Aq)⟩:BB),false,(⟨0,0,(⟨0,0,0,0,0,0,0,[],0,0,(⟨0,0⟩:Aj),(⟨0,0⟩:Aj),(⟨0,0⟩:Aj)⟩:Aq),0,0,0,0⟩:Ay))
 else if a0.Kind==4 then
  jJ8 (a0.Kind,(⟨0,0,0,0,0,0,0,[],0,0,(⟨0,0⟩:Aj),(⟨0,0⟩:Aj),(⟨0,0⟩:Aj)⟩:Aq),(⟨(⟨0,0,(⟨0,0,0,0,0⟩:A5 (Int))⟩:AG),false,false,0⟩:CB),false,a0.abb,a0.May,(⟨0,0,(⟨0,0,0,0,0,0,0,[],0,0,(⟨0,0⟩:Aj),(⟨0,0⟩:Aj),(⟨0,0⟩:Aj)⟩:Aq),0,0,0,0⟩:Ay))
 else
  some false))
def gY:Cj:=mC [Y0,Di,OT,gV,QT,ly,PG,gW] 150 Tryz.f150 (.s .n (.s .n (.j ⟨[1,3],[],[[1]],[([3], .box [Bd, .v (.s 110), .c (.L_), .v (.s 113),GJ, .v (.s 115),GJ, .c (.L_), .c (.L_), .v (.s 119)])]⟩ (.s .n (.s .n (.i (.s (.r [] [] (.t (.q 1 .lz (.q 3 .lz .n)))) .n) (.s .n (.i .n (.s .n (.i .n (.s .n (.i (.r [] [] (.t (.q 1 .lz .n))) (.s .n (.i (.r [] [] (.t (.q 1 .lz .n))) .n))))))))))) (.s (.r [] [] (.t (.q 1 .lz (.q 3 .lz .n)))) (.s .n (.j ⟨[1],[],[[1]],[]⟩ (.s .n (.l ⟨[1,101,102],[BS 103],[[1]],[]⟩ [(2,⟨[1],[],[[1]],[]⟩),(0,⟨[],[JL 2],[],[]⟩)] .n)) (.j ⟨[1],[],[[1]],[]⟩ (.s .n (.l ⟨[1,112,113],[BS 114],[[1]],[]⟩ [(4,⟨[1],[],[[1]],[]⟩),(0,⟨[],[JL 2],[],[]⟩)] .n)) .n))))))) [.s 121] [.k (.bool)] (fun x=>H7 x.1) Tryz.func150 (by kernel_rfl)
end Go.PL
