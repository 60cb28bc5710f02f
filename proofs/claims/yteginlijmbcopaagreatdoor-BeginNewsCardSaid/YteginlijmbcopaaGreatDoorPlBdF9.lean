/- Functions of the program, as partial functions in Lean, with proofs. -/
import Derived.Test.YteginlijmbcopaaGreatDoorPlBdB
import Derived.Test.YteginlijmbcopaaGreatDoorPlBdF0
import Derived.Test.YteginlijmbcopaaGreatDoorPlBdF1
import Derived.Test.YteginlijmbcopaaGreatDoorPlBdF2
import Derived.Test.YteginlijmbcopaaGreatDoorPlBdF3
import Derived.Test.YteginlijmbcopaaGreatDoorPlBdF4
import Derived.Test.YteginlijmbcopaaGreatDoorPlBdF5
import Derived.Test.YteginlijmbcopaaGreatDoorPlBdF6
import Derived.Test.YteginlijmbcopaaGreatDoorPlBdF8
namespace Go.PL
open Go Go.RowKit Go.Proofs
set_option maxRecDepth 100000
set_option linter.all false
set_option maxHeartbeats 4000000
attribute [local irreducible] Ae Cq Cl
def Hc (a0:AE):Option (Bool):=
 (gd ((a0.Kind != 3)==false) (De a0.acb)).bind fun r16=>
 (some (if a0.Kind != 3 then true else r16 != ([]:List UInt8))).bind fun b17=>
 (gd ((b17==true)&&((a0.Kind != 4)==false)) (CF a0.aay)).bind fun r18=>
 (some (if a0.Kind != 4 then true else r18)).bind fun b19=>
 (some (if b17 then b19 else false)).bind fun b20=>
 some b20
def EO (a0:AE) (ahM:Int):Option ((Int)⊕(Unit⊕Bool)):=
 (if(decide (ahM<(a0.n_.length:Int))) then
  (idx a0.n_ ahM).bind fun e26=>
  (Gv e26 (a0.aai.length:Int)).bind fun r27=>
  (if !r27 then
   some (.inr (.inr false))
  else
   some (.inl (Aa (ahM+1))))
 else
  some (.inr (.inl ())))
def KS (a0:AE):Option (Bool):=
 jn (fun(v:Unit)=>Hc a0) (fun ad9=>
 (iter (fun(v:Int)=>EO a0 v) FU (0:Int)).bind (Sum.elim (fun o0=>ad9 ()) (fun o1=>some o1)))
def EP (a0:AE) (ahO:Int):Option ((Int)⊕(Unit⊕Bool)):=
 (if(decide (ahO<(a0.aai.length:Int))) then
  (idx a0.aai ahO).bind fun e34=>
  (Fb e34).bind fun r35=>
  (if(r35==([]:List UInt8)) then
   some (.inr (.inr false))
  else
   some (.inl (Aa (ahO+1))))
 else
  some (.inr (.inl ())))
def L2 (a0:AE) (aoy:Int) (alR:Ag) (am3:BX) (aox:Bool) (akA:AY) (ap2:Bool) (akB:Au):Option (Bool):=
 (E3 a0 (⟨aoy,alR,([]:List (AZ)),am3,aox,akA,ap2,a0.aai,a0.n_,akB⟩:AE)).bind fun r9=>
 (some (if !r9 then true else decide (4<(a0.aai.length:Int)))).bind fun b10=>
 (some (if b10 then true else(a0.n_.length:Int)==0)).bind fun b11=>
 (some (if b11 then true else decide (8<(a0.n_.length:Int)))).bind fun b12=>
 (if b12 then
  some false
 else
  jn (fun(v:Unit)=>KS a0) (fun ade=>
  (iter (fun(v:Int)=>EP a0 v) FU (0:Int)).bind (Sum.elim (fun o0=>ade ()) (fun o1=>some o1))))
def C0 (a0:AE):Option (Bool):=
 jn (fun(v:Int×Ag×BX×Bool×AY×Bool×Au)=>L2 a0 v.1 v.2.1 v.2.2.1 v.2.2.2.1 v.2.2.2.2.1 v.2.2.2.2.2.1 v.2.2.2.2.2.2) (fun jJ8=>
 (if a0.Kind==1 then
  (E3 a0 (⟨a0.Kind,a0.Filter,a0.aap,(⟨(⟨0,0,(⟨0,0,0,0,0⟩:A5 (Int))⟩:Az),false,false,0⟩:BX),false,(⟨0,0,(⟨0,0,0,0,0,0,0,[],0,0,(⟨0,0⟩:Ac),(⟨0,0⟩:Ac),(⟨0,0⟩:Ac)⟩:Ag)⟩:AY),false,([]:List (Da)),([]:List (Av)),(⟨0,0,(⟨0,0,0,0,0,0,0,[],0,0,(⟨0,0⟩:Ac),(⟨0,0⟩:Ac),(⟨0,0⟩:Ac)⟩:Ag),0,0,0,0⟩:Au)⟩:AE)).bind fun r38=>
  (gd (r38==true) (B0 a0.Filter)).bind fun r39=>
  (some (if r38 then r39 else false)).bind fun b40=>
  (some (if b40 then a0.Filter.AT==0 else false)).bind fun b41=>
  (gd (b41==true) (Fc a0.aap)).bind fun r42=>
  (some (if b41 then r42 != ([]:List UInt8)else false)).bind fun b43=>
  some b43
 else if a0.Kind==5 then
  (E3 a0 (⟨a0.Kind,(⟨0,0,0,0,0,0,0,[],0,0,(⟨0,0⟩:Ac),(⟨0,0⟩:Ac),(⟨0,0⟩:Ac)⟩:Ag),([]:List (AZ)),(⟨(⟨0,0,(⟨0,0,0,0,0⟩:A5 (Int))⟩:Az),false,false,0⟩:BX),false,(⟨0,0,(⟨0,0,0,0,0,0,0,[],0,0,(⟨0,0⟩:Ac),(⟨0,0⟩:Ac),(⟨0,0⟩:Ac)⟩:Ag)⟩:AY),false,([]:List (Da)),([]:List (Av)),a0.Replace⟩:AE)).bind fun r45=>
  (gd (r45==true) (CD a0.Replace)).bind fun r46=>
  (some (if r45 then r46 else false)).bind fun b47=>
  some b47
 else if a0.Kind==2 then
  jJ8 (a0.Kind,(⟨0,0,0,0,0,0,0,[],0,0,(⟨0,0⟩:Ac),(⟨0,0⟩:Ac),(⟨0,0⟩:Ac)⟩:Ag),(⟨(⟨0,0,(⟨0,0,0,0,0⟩:A5 (Int))⟩:Az),false,false,0⟩:BX),false,(⟨0,0,(⟨0,0,0,0,0,0,0,[],0,0,(⟨0,0⟩:Ac),(⟨0,0⟩:Ac),(⟨0,0⟩:Ac)⟩:Ag)⟩:AY),false,(⟨0,0,(⟨0,0,0,0,0,0,0,[],0,0,(⟨0,0⟩:Ac),(⟨0,0⟩:Ac),(⟨0,0⟩:Ac)⟩:Ag),0,0,0,0⟩:Au))
 else if a0.Kind==3 then
  jJ8 (a0.Kind,(⟨0,0,0,0,0,0,0,[],0,0,(⟨0,0⟩:Ac),(⟨0,0⟩:Ac),(⟨0,0⟩:Ac)⟩:Ag),a0.acb,a0.ahg,(⟨0,0,(⟨0,0,0,0,0,0,0,[],0,0,(⟨0,0⟩:Ac),(⟨0,0⟩:Ac),(⟨0,0⟩:Ac)⟩:Ag)⟩:AY),false,(⟨0,0,(⟨0,0,0,0,0,0,0,[],0,0,(⟨0,0⟩:Ac),(⟨0,0⟩:Ac),(⟨0,0⟩:Ac)⟩:Ag),0,0,0,0⟩:Au))
 else if a0.Kind==4 then
  jJ8 (a0.Kind,(⟨0,0,0,0,0,0,0,[],0,0,(⟨0,0⟩:Ac),(⟨0,0⟩:Ac),(⟨0,0⟩:Ac)⟩:Ag),(⟨(⟨0,0,(⟨0,0,0,0,0⟩:A5 (Int))⟩:Az),false,false,0⟩:BX),false,a0.aay,a0.May,(⟨0,0,(⟨0,0,0,0,0,0,0,[],0,0,(⟨0,0⟩:Ac),(⟨0,0⟩:Ac),(⟨0,0⟩:Ac)⟩:Ag),0,0,0,0⟩:Au))
 else
  some false))
def lr:Bb:=mC [bw,Dd,PR,lg,R7,pw,QI,lh] 150 Tryz.f150 (.s .n (.s .n (.j ⟨[1,3],[],[[1]],[([3], .box [AF, .v (.s 110), .c (.s_), .v (.s 113),Lk, .v (.s 115),Lk, .c (.s_), .c (.s_), .v (.s 119)])]⟩ (.s .n (.s .n (.i (.s (.r [] [] (.t (.q 1 .lz (.q 3 .lz .n)))) .n) (.s .n (.i .n (.s .n (.i .n (.s .n (.i (.r [] [] (.t (.q 1 .lz .n))) (.s .n (.i (.r [] [] (.t (.q 1 .lz .n))) .n))))))))))) (.s (.r [] [] (.t (.q 1 .lz (.q 3 .lz .n)))) (.s .n (.j ⟨[1],[],[[1]],[]⟩ (.s .n (.l ⟨[1,101,102],[Bd 103],[[1]],[]⟩ [(2,⟨[1],[],[[1]],[]⟩),(0,⟨[],[ES 2],[],[]⟩)] .n)) (.j ⟨[1],[],[[1]],[]⟩ (.s .n (.l ⟨[1,112,113],[Bd 114],[[1]],[]⟩ [(4,⟨[1],[],[[1]],[]⟩),(0,⟨[],[ES 2],[],[]⟩)] .n)) .n))))))) [.s 121] [.k (.bool)] (fun x=>C0 x.1) Tryz.func150 (by kernel_rfl)
def Sb (aeC:Bool) (b8:Bool) (b12:Bool) (ad3:Bool) (afR:Bool) (agt:Bool) (ajt:Bool) (apd:Bool):Option (Bool):=
 (some (if aeC then b8 else false)).bind fun b23=>
 (some (if b23 then b12 else false)).bind fun b24=>
 (some (if b24 then ad3 else false)).bind fun b25=>
 (some (if b25 then afR else false)).bind fun b26=>
 (some (if b26 then agt else false)).bind fun b27=>
 (some (if b27 then ajt else false)).bind fun b28=>
 (some (if b28 then apd else false)).bind fun b29=>
 some b29
def Sc (a0:Av) (aeC:Bool) (b8:Bool) (b12:Bool) (ad3:Bool) (afR:Bool) (agt:Bool) (ajt:Bool):Option (Bool):=
 jn (fun(v:Bool)=>Sb aeC b8 b12 ad3 afR agt ajt v) (fun anV=>
 (BA a0.Op (102:Int)).bind fun r30=>
 (if r30 then
  (NY a0.Op a0.Filter).bind fun r32=>
  anV r32
 else
  anV (a0.Filter==(⟨0,0,0,0,0,0,0,[],0,0,(⟨0,0⟩:Ac),(⟨0,0⟩:Ac),(⟨0,0⟩:Ac)⟩:Ag))))
def Sd (a0:Av) (aeC:Bool) (b8:Bool) (b12:Bool) (ad3:Bool) (afR:Bool) (agt:Bool):Option (Bool):=
 jn (fun(v:Bool)=>Sc a0 aeC b8 b12 ad3 afR agt v) (fun alz=>
 (BA a0.Op (112:Int)).bind fun r33=>
 (if r33 then
  (gd ((!(a0.abE==(⟨0,0,0,0,0,0⟩:A6 (Int))))==true) (G9 a0.abE)).bind fun r35=>
  (some (if(!(a0.abE==(⟨0,0,0,0,0,0⟩:A6 (Int)))) then r35 != ([]:List UInt8)else false)).bind fun b36=>
  alz b36
 else
  alz (a0.abE==(⟨0,0,0,0,0,0⟩:A6 (Int)))))
def Se (a0:Av) (aeC:Bool) (b8:Bool) (b12:Bool) (ad3:Bool) (afR:Bool):Option (Bool):=
 jn (fun(v:Bool)=>Sd a0 aeC b8 b12 ad3 afR v) (fun aix=>
 (BA a0.Op (109:Int)).bind fun r37=>
 (if r37 then
  (UC a0.aap).bind fun r39=>
  aix r39
 else
  aix ((a0.aap.length:Int)==0)))
def Sf (a0:Av) (aeC:Bool) (b8:Bool) (b12:Bool) (ad3:Bool):Option (Bool):=
 jn (fun(v:Bool)=>Se a0 aeC b8 b12 ad3 v) (fun aeT=>
 (BA a0.Op (97:Int)).bind fun r40=>
 (if r40 then
  (R9 a0.adN).bind fun r42=>
  aeT r42
 else
  aeT (a0.adN==(⟨0,0,0,(⟨0,0,0,0,0,0,0,[],0,0,(⟨0,0⟩:Ac),(⟨0,0⟩:Ac),(⟨0,0⟩:Ac)⟩:Ag)⟩:AW))))
def Wh (a0:Av) (aeC:Bool):Option (Bool):=
 (gd ((a0.AT==0)==false) (BA a0.Op (122:Int))).bind fun r5=>
 (some (if r5 then decide (0<a0.AT)else false)).bind fun b6=>
 (some (if b6 then decide (a0.AT<=4)else false)).bind fun b7=>
 (some (if a0.AT==0 then true else b7)).bind fun b8=>
 (gd ((a0.r_==0)==false) (BA a0.Op (107:Int))).bind fun r9=>
 (gd (((a0.r_==0)==false)&&(r9==true)) (Pt a0.r_)).bind fun r10=>
 (some (if r9 then r10 != ([]:List UInt8)else false)).bind fun b11=>
 (some (if a0.r_==0 then true else b11)).bind fun b12=>
 jn (fun(v:Bool)=>Sf a0 aeC b8 b12 v) (fun ade=>
 (BA a0.Op (99:Int)).bind fun r43=>
 (if r43 then
  (V2 a0.ad1).bind fun r45=>
  ade r45
 else
  ade (a0.ad1==([]:List UInt8))))
def Sh (a0:Av) (a1:Int):Option (Bool):=
 (MH a0.Op).bind fun r1=>
 (if(r1==([]:List UInt8)) then
  some false
 else
  jn (fun(v:Bool)=>Wh a0 v) (fun jJ4=>
  (BA a0.Op (114:Int)).bind fun r46=>
  (if r46 then
   (Wf a0.Ref a1).bind fun r48=>
   jJ4 r48
  else
   jJ4 (a0.Ref==(⟨0,0,(⟨0,0,0,0,0,0,0,[],0,0,(⟨0,0⟩:Ac),(⟨0,0⟩:Ac),(⟨0,0⟩:Ac)⟩:Ag)⟩:HF)))))
def Aae:Bb:=mC [sD,sL,Aab,bU,ce,Aac,sV,cK,lq] 192 Tryz.f192 (.s .n (.s .n (.s .n (.j ⟨[2],[ES 5],[[2]],[]⟩ .n (.s .n (.s .n (.s .n (.j ⟨[2,5,6,7],[ES 8],[[2]],[]⟩ .n (.s .n (.j ⟨[2,5,6,7,8],[ES 9],[[2]],[]⟩ .n (.s .n (.j ⟨[2,5,6,7,8,9],[ES 10],[[2]],[]⟩ .n (.s .n (.j ⟨[2,5,6,7,8,9,10],[ES 11],[[2]],[]⟩ .n (.s .n (.j ⟨[5,6,7,8,9,10,11],[ES 12],[],[]⟩ .n .n)))))))))))))))) [.s 180, .k (.int .i64)] [.k (.bool)] (fun x=>Sh x.1 x.2.1) Tryz.func192 (by kernel_rfl)
end Go.PL
