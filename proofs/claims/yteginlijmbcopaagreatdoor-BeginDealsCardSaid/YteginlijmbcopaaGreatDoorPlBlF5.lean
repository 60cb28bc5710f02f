/- Functions of the program, as partial functions in Lean, with proofs. -/
import Derived.Test.YteginlijmbcopaaGreatDoorPlBlB
import Derived.Test.YteginlijmbcopaaGreatDoorPlBlF0
import Derived.Test.YteginlijmbcopaaGreatDoorPlBlF1
import Derived.Test.YteginlijmbcopaaGreatDoorPlBlF2
import Derived.Test.YteginlijmbcopaaGreatDoorPlBlF3
import Derived.Test.YteginlijmbcopaaGreatDoorPlBlF4
namespace Go.PL
open Go Go.RowKit Go.Proofs
set_option maxRecDepth 100000
set_option linter.all false
set_option maxHeartbeats 4000000
attribute [local irreducible] Aq Cr Cc
def MS (a0:BB) (asI:Bool):Option (Bool):=
 (if asI then
  (some (if decide (1<=a0.N) then decide (a0.N<=131071)else false)).bind fun b20=>
  some b20
 else if a0.Kind==11 then
  (FM a0.Filter).bind fun r22=>
  some r22
 else if a0.Kind==12 then
  (some (if decide (0<=a0.N) then decide (a0.N<=99)else false)).bind fun b24=>
  (some (if b24 then decide (0<=a0.M)else false)).bind fun b25=>
  (some (if b25 then decide (a0.M<=99)else false)).bind fun b26=>
  some b26
 else if a0.Kind==13 then
  (some (if(decide ((-99:Int)<=a0.N)) then decide (a0.N<=99)else false)).bind fun b28=>
  (some (if b28 then decide ((-99:Int)<=a0.M)else false)).bind fun b29=>
  (some (if b29 then decide (a0.M<=99)else false)).bind fun b30=>
  some b30
 else
  some true)
def MT (a0:BB) (auT:Bool):Option (Bool):=
 (if auT then
  (Jb a0.Sub).bind fun r12=>
  some r12
 else if a0.Kind==6 then
  (some (if decide (0<=a0.N) then decide (a0.N<=31)else false)).bind fun b14=>
  some b14
 else if a0.Kind==7 then
  (some (if decide (1<=a0.N) then decide (a0.N<=31)else false)).bind fun b16=>
  some b16
 else
  jn (fun(v:Bool)=>MS a0 v) (fun akH=>
  (if a0.Kind==8 then
   akH (a0.Kind==8)
  else
   akH (a0.Kind==9))))
def Pi (a0:BB) (auV:Bool):Option (Bool):=
 (if auV then
  (Pb a0.N).bind fun r8=>
  some r8
 else
  jn (fun(v:Bool)=>MT a0 v) (fun ajx=>
  (if a0.Kind==4 then
   ajx (a0.Kind==4)
  else
   ajx (a0.Kind==5))))
def Lh (a0:BB):Option (Bool):=
 (some (if decide (a0.Kind<1) then true else decide (14<a0.Kind))).bind fun b1=>
 (gd (b1==false) (Ob a0)).bind fun r2=>
 (some (if b1 then true else !(r2==(⟨0,0,0,[],(⟨0,0,0,0,0,0,0,[],0,0,(⟨0,0⟩:As),(⟨0,0⟩:As),(⟨0,0⟩:As)⟩:Av)⟩:BB)))).bind fun b3=>
 (if b3 then
  some false
 else
  jn (fun(v:Bool)=>Pi a0 v) (fun jJ6=>
  (if a0.Kind==2 then
   jJ6 (a0.Kind==2)
  else
   jJ6 (a0.Kind==3))))
def nK:A9:=mC [qM,mV,Ov,GE] 143 Tryz.f143 (.s .n (.s .n (.s (.s .n (.j ⟨[1,18],[EO 19],[[1]],[]⟩ .n (.i .n (.j ⟨[1,18],[EO 25],[[1]],[]⟩ .n (.i .n (.s .n (.i .n (.s .n (.i .n (.j ⟨[1,18],[EO 51],[[1]],[]⟩ .n .n)))))))))) .n))) [.s 148] [.k (.bool)] (fun x=>Lh x.1) Tryz.func143 (by kernel_rfl)
def SE (atS:List (List UInt8)):Option ((List UInt8)):=
 (if((atS.length:Int)==0) then
  some AbA
 else
  (R3 atS AbB).bind fun r41=>
  some r41)
def SF (a0:Av) (atT:List (List UInt8)):Option ((List UInt8)):=
 (DW vz a0.Value).bind fun r37=>
 jn (fun(v:(List (List UInt8)))=>SE v) (fun an_=>
 (if(r37==([]:List UInt8)) then
  an_ atT
 else
  (app 16 atT ([r37]:List (List UInt8))).bind fun l43=>
  an_ l43))
def SG (a0:Av) (atU:List (List UInt8)):Option ((List UInt8)):=
 (DW vy a0.acD).bind fun r34=>
 jn (fun(v:(List (List UInt8)))=>SF a0 v) (fun as_=>
 (if(r34==([]:List UInt8)) then
  as_ atU
 else
  (app 16 atU ([r34]:List (List UInt8))).bind fun l45=>
  as_ l45))
def SH (a0:Av) (atV:List (List UInt8)):Option ((List UInt8)):=
 (DW vx a0.Power).bind fun r31=>
 jn (fun(v:(List (List UInt8)))=>SG a0 v) (fun ayn=>
 (if(r31==([]:List UInt8)) then
  ayn atV
 else
  (app 16 atV ([r31]:List (List UInt8))).bind fun l47=>
  ayn l47))
def SI (a0:Av) (r6:(List (List UInt8))) (atW:List (List UInt8)):Option ((List UInt8)):=
 (idx r6 a0.Tap).bind fun e28=>
 jn (fun(v:(List (List UInt8)))=>SH a0 v) (fun ayo=>
 (if(e28==([]:List UInt8)) then
  ayo atW
 else
  (app 16 atW ([e28]:List (List UInt8))).bind fun l49=>
  ayo l49))
def jM (afJ:Int) (ax0:List (List UInt8)):Option ((Int×(List (List UInt8)))⊕((List (List UInt8)))):=
 some (.inl ((Ab (afJ+1)),ax0))
def MU (a0:Av) (afJ:Int) (ard:List (List UInt8)):Option ((Int×(List (List UInt8)))⊕((List (List UInt8)))):=
 (if decide (afJ<17) then
  jn (fun(v:(List (List UInt8)))=>jM afJ v) (fun ayh=>
  (KB a0.Keys afJ).bind fun r60=>
  (if r60 then
   (Sm afJ).bind fun r62=>
   (cat Um r62).bind fun s63=>
   (app 16 ard ([s63]:List (List UInt8))).bind fun l64=>
   ayh l64
  else
   ayh ard))
 else
  some (.inr ard))
def MV (a0:Av) (r6:(List (List UInt8))) (ax1:List (List UInt8)):Option ((List UInt8)):=
 jn (fun(v:(List (List UInt8)))=>SI a0 r6 v) (fun aob=>
 (iter (fun(v:Int×(List (List UInt8)))=>MU a0 v.1 v.2) FU ((0:Int),ax1)).bind (fun o0=>aob o0))
def SJ (a0:Av) (r6:(List (List UInt8))) (atX:List (List UInt8)):Option ((List UInt8)):=
 jn (fun(v:(List (List UInt8)))=>MV a0 r6 v) (fun ayr=>
 (if(a0.Sub != ([]:List UInt8)) then
  (cat PJ a0.Sub).bind fun s66=>
  (app 16 atX ([s66]:List (List UInt8))).bind fun l67=>
  ayr l67
 else
  ayr atX))
def jN (afK:Int) (axZ:List (List UInt8)):Option ((Int×(List (List UInt8)))⊕((List (List UInt8)))):=
 some (.inl ((Ab (afK+1)),axZ))
def MW (a0:Av) (afK:Int) (arc:List (List UInt8)):Option ((Int×(List (List UInt8)))⊕((List (List UInt8)))):=
 (if decide (afK<5) then
  jn (fun(v:(List (List UInt8)))=>jN afK v) (fun ayg=>
  (KB a0.adq afK).bind fun r78=>
  (if r78 then
   (Oc afK).bind fun r80=>
   (cat LU r80).bind fun s81=>
   (app 16 arc ([s81]:List (List UInt8))).bind fun l82=>
   ayg l82
  else
   ayg arc))
 else
  some (.inr arc))
def SK (a0:Av) (r6:(List (List UInt8))) (ax2:List (List UInt8)):Option ((List UInt8)):=
 jn (fun(v:(List (List UInt8)))=>SJ a0 r6 v) (fun aC6=>
 (iter (fun(v:Int×(List (List UInt8)))=>MW a0 v.1 v.2) FU ((0:Int),ax2)).bind (fun o0=>aC6 o0))
def jO (afL:Int) (axX:List (List UInt8)):Option ((Int×(List (List UInt8)))⊕((List (List UInt8)))):=
 some (.inl ((Ab (afL+1)),axX))
def MX (a0:Av) (afL:Int) (arb:List (List UInt8)):Option ((Int×(List (List UInt8)))⊕((List (List UInt8)))):=
 (if decide (afL<5) then
  jn (fun(v:(List (List UInt8)))=>jO afL v) (fun ayf=>
  (KB a0.ah6 afL).bind fun r93=>
  (if r93 then
   (Oc afL).bind fun r95=>
   (app 16 arb ([r95]:List (List UInt8))).bind fun l96=>
   ayf l96
  else
   ayf arb))
 else
  some (.inr arb))
def SL (a0:Av) (r6:(List (List UInt8))) (ax3:List (List UInt8)):Option ((List UInt8)):=
 jn (fun(v:(List (List UInt8)))=>SK a0 r6 v) (fun aiG=>
 (iter (fun(v:Int×(List (List UInt8)))=>MX a0 v.1 v.2) FU ((0:Int),ax3)).bind (fun o0=>aiG o0))
def cO (afG:Int) (avs:List (List UInt8)):Option ((Int×(List (List UInt8)))⊕((List (List UInt8)))):=
 some (.inl ((Ab (afG+1)),avs))
def Li (a0:Av) (afG:Int) (an4:List (List UInt8)):Option ((Int×(List (List UInt8)))⊕((List (List UInt8)))):=
 (if decide (afG<6) then
  jn (fun(v:(List (List UInt8)))=>cO afG v) (fun at5=>
  (KB a0.ad_ afG).bind fun avi=>
  (if avi then
   (IQ afG).bind fun aCi=>
   (cat LU aCi).bind fun aBv=>
   (app 16 an4 ([aBv]:List (List UInt8))).bind fun aC0=>
   at5 aC0
  else
   at5 an4))
 else
  some (.inr an4))
def SM (a0:Av) (r6:(List (List UInt8))) (ax4:List (List UInt8)):Option ((List UInt8)):=
 jn (fun(v:(List (List UInt8)))=>SL a0 r6 v) (fun amb=>
 (iter (fun(v:Int×(List (List UInt8)))=>Li a0 v.1 v.2) FU ((0:Int),ax4)).bind (fun o0=>amb o0))
def cP (afH:Int) (avr:List (List UInt8)):Option ((Int×(List (List UInt8)))⊕((List (List UInt8)))):=
 some (.inl ((Ab (afH+1)),avr))
def Lj (a0:Av) (afH:Int) (an3:List (List UInt8)):Option ((Int×(List (List UInt8)))⊕((List (List UInt8)))):=
 (if decide (afH<6) then
  jn (fun(v:(List (List UInt8)))=>cP afH v) (fun at4=>
  (KB a0.Types afH).bind fun avh=>
  (if avh then
   (IQ afH).bind fun avg=>
   (app 16 an3 ([avg]:List (List UInt8))).bind fun aCX=>
   at4 aCX
  else
   at4 an3))
 else
  some (.inr an3))
def SN (a0:Av) (r6:(List (List UInt8))) (ax5:List (List UInt8)):Option ((List UInt8)):=
 jn (fun(v:(List (List UInt8)))=>SM a0 r6 v) (fun atb=>
 (iter (fun(v:Int×(List (List UInt8)))=>Lj a0 v.1 v.2) FU ((0:Int),ax5)).bind (fun o0=>atb o0))
def SO (a0:Av) (r5:(List (List UInt8))) (r6:(List (List UInt8))) (atY:List (List UInt8)):Option ((List UInt8)):=
 (idx r5 a0.Self).bind fun e13=>
 jn (fun(v:(List (List UInt8)))=>SN a0 r6 v) (fun aeh=>
 (if(e13==([]:List UInt8)) then
  aeh atY
 else
  (app 16 atY ([e13]:List (List UInt8))).bind fun aCW=>
  aeh aCW))
def VZ (a0:Av) (r4:(List (List UInt8))) (r5:(List (List UInt8))) (r6:(List (List UInt8))) (axY:List (List UInt8)):Option ((List UInt8)):=
 (idx r4 a0.Who).bind fun e10=>
 jn (fun(v:(List (List UInt8)))=>SO a0 r5 r6 v) (fun agV=>
 (if(e10==([]:List UInt8)) then
  agV axY
 else
  (app 16 axY ([e10]:List (List UInt8))).bind fun aCV=>
  agV aCV))
def SP (a0:Av):Option ((List UInt8)):=
 (FM a0).bind fun r1=>
 (if !r1 then
  some ([]:List UInt8)
 else
  (PO).bind fun r3=>
  (RY).bind fun r4=>
  (PQ).bind fun r5=>
  (RZ).bind fun r6=>
  (idx r3 a0.O_).bind fun e7=>
  jn (fun(v:(List (List UInt8)))=>VZ a0 r4 r5 r6 v) (fun jJ9=>
  (if(e7==([]:List UInt8)) then
   jJ9 ([]:List (List UInt8))
  else
   (app 16 ([]:List (List UInt8)) ([e7]:List (List UInt8))).bind fun aCU=>
   jJ9 aCU)))
def rq:A9:=mC [GE,Wc,Zw,Wd,Zx,vM,ae,Zv,ZV,Wy,qP] 198 Tryz.f198 (.s .n (.s .n (.s .n (.s .n (.s .n (.s .n (.s .n (.s (.r [] [] (.j 6 ⟨[1,4,5,6],[(26, .c (.c (.n_ [7])))],[[1]],[([7], .row 9)]⟩ .n .n)) (.s (.r [] [] (.j 6 ⟨[1,5,6],[(33, .c (.c (.n_ [7])))],[[1]],[([7], .row 9)]⟩ .n .n)) (.s (.r [] [] (.j 6 ⟨[1,6],[(40, .c (.c (.n_ [7])))],[[1]],[([7], .row 9)]⟩ .n .n)) (.j ⟨[1,6],[(7, .c (.c (.n_ [7])))],[[1]],[([7], .row 9)]⟩ (.s .n (.l ⟨[1,6],[(7, .c (.c (.n_ [7]))),A0 8],[[1]],[([7], .row 9)]⟩ [(1,⟨[1,6],[(7, .c (.c (.n_ [7])))],[[1]],[([7], .row 9)]⟩)] (.s .n (.j ⟨[1,6,8],[(7, .c (.c (.n_ [7])))],[[1]],[([7], .row 9)]⟩ .n .n)))) (.j ⟨[1,6],[(7, .c (.c (.n_ [7])))],[[1]],[([7], .row 9)]⟩ (.s .n (.l ⟨[1,6],[(7, .c (.c (.n_ [7]))),A0 9],[[1]],[([7], .row 9)]⟩ [(3,⟨[1,6],[(7, .c (.c (.n_ [7])))],[[1]],[([7], .row 9)]⟩)] (.s .n (.j ⟨[1,6,9],[(7, .c (.c (.n_ [7])))],[[1]],[([7], .row 9)]⟩ .n .n)))) (.j ⟨[1,6],[(7, .c (.c (.n_ [7])))],[[1]],[([7], .row 9)]⟩ (.s .n (.l ⟨[1,6],[(7, .c (.c (.n_ [7]))),A0 10],[[1]],[([7], .row 9)]⟩ [(5,⟨[1,6],[(7, .c (.c (.n_ [7])))],[[1]],[([7], .row 9)]⟩)] (.s .n (.j ⟨[1,6,10],[(7, .c (.c (.n_ [7])))],[[1]],[([7], .row 9)]⟩ .n .n)))) (.j ⟨[1,6],[(7, .c (.c (.n_ [7])))],[[1]],[([7], .row 9)]⟩ (.s .n (.l ⟨[1,6],[(7, .c (.c (.n_ [7]))),A0 11],[[1]],[([7], .row 9)]⟩ [(7,⟨[1,6],[(7, .c (.c (.n_ [7])))],[[1]],[([7], .row 9)]⟩)] (.s .n (.j ⟨[1,6,11],[(7, .c (.c (.n_ [7])))],[[1]],[([7], .row 9)]⟩ .n .n)))) (.j ⟨[1,6],[(7, .c (.c (.n_ [7])))],[[1]],[([7], .row 9)]⟩ .n (.j ⟨[1,6],[(7, .c (.c (.n_ [7])))],[[1]],[([7], .row 9)]⟩ (.s .n (.l ⟨[1,6],[(7, .c (.c (.n_ [7]))),A0 12],[[1]],[([7], .row 9)]⟩ [(9,⟨[1,6],[(7, .c (.c (.n_ [7])))],[[1]],[([7], .row 9)]⟩)] (.s .n (.j ⟨[1,6,12],[(7, .c (.c (.n_ [7])))],[[1]],[([7], .row 9)]⟩ .n .n)))) (.s (.r [] [] (.j 6 ⟨[1],[(124, .c (.c (.n_ [7])))],[[1]],[([7], .row 9)]⟩ .n .n)) (.s (.r [] [] (.j 4 ⟨[1],[(129, .c (.c (.n_ [7])))],[[1]],[([7], .row 9)]⟩ .n .n)) (.s (.r [] [] (.j 4 ⟨[1],[(134, .c (.c (.n_ [7])))],[[1]],[([7], .row 9)]⟩ .n .n)) (.s (.r [] [] (.j 4 ⟨[],[(139, .c (.c (.n_ [7])))],[],[([7], .row 9)]⟩ .n .n)) .n)))))))))))))))))))) [.s 110] [.k (.str)] (fun x=>SP x.1) Tryz.func198 (by kernel_rfl)
def ay (a0:Bz) (apC:Int):Option (Bool):=
 (FM a0.Filter).bind fun r11=>
 (some (if r11 then a0.Filter.O_==apC else false)).bind fun b12=>
 some b12
def jP (a0:Bz):Option (Bool):=
 (Od a0.aoQ).bind fun r1=>
 (some (if(r1==([]:List UInt8)) then true else decide (a0.Who<0))).bind fun b2=>
 (some (if b2 then true else decide (2<a0.Who))).bind fun b3=>
 (gd (b3==false) (JS a0.aoQ)).bind fun r4=>
 (some (if !r4 then a0.Who != 0 else false)).bind fun b5=>
 (if(if b3=true then true else b5) then
  some false
 else
  (K5 a0.aoQ).bind fun r7=>
  (if !r7 then
   some (a0.Filter==(⟨0,0,0,0,0,0,0,[],0,0,(⟨0,0⟩:As),(⟨0,0⟩:As),(⟨0,0⟩:As)⟩:Av))
  else
   jn (fun(v:Int)=>ay a0 v) (fun ajx=>
   (if a0.aoQ==9 then
    ajx (5:Int)
   else
    ajx (0:Int)))))
def yJ:A9:=mC [Zz,R4,Wu,GE] 139 Tryz.f139 (.s .n (.s .n (.s .n (.s .n (.j ⟨[1],[A0 3],[[1]],[]⟩ .n .n))))) [.s 115] [.k (.bool)] (fun x=>jP x.1) Tryz.func139 (by kernel_rfl)
def Jc (a0:Av):Option (Bool):=
 (FM a0).bind fun r1=>
 (some (if r1 then a0.O_==0 else false)).bind fun b2=>
 some b2
def V0:A9:=mC [GE] 190 Tryz.f190 .n [.s 110] [.k (.bool)] (fun x=>Jc x.1) Tryz.func190 (by kernel_rfl)
def SQ (a0:C8):Option (Bool):=
 (if !a0.Object then
  (some (if a0.abO then a0.Filter==(⟨0,0,0,0,0,0,0,[],0,0,(⟨0,0⟩:As),(⟨0,0⟩:As),(⟨0,0⟩:As)⟩:Av)else false)).bind fun b2=>
  some b2
 else
  (FM a0.Filter).bind fun r3=>
  (some (if a0.Filter.O_==0 then true else a0.Filter.O_==3)).bind fun b4=>
  (some (if b4 then true else a0.Filter.O_==5)).bind fun b5=>
  (some (if r3 then b5 else false)).bind fun b6=>
  some b6)
def rr:A9:=mC [GE] 191 Tryz.f191 .n [.s 184] [.k (.bool)] (fun x=>SQ x.1) Tryz.func191 (by kernel_rfl)
def fO (a0:Px):Option (Bool):=
 (if a0.Kind==4 then
  (FM a0.Filter).bind fun r7=>
  some r7
 else
  some (a0.Filter==(⟨0,0,0,0,0,0,0,[],0,0,(⟨0,0⟩:As),(⟨0,0⟩:As),(⟨0,0⟩:As)⟩:Av)))
def fP (a0:Px) (anT:Int):Option (Bool):=
 (some (if decide (a0.Kind<1) then true else decide (8<a0.Kind))).bind fun b3=>
 (if b3 then
  some false
 else
  jn (fun(v:Unit)=>fO a0) (fun jJ5=>
  (MH a0.Kind).bind fun r8=>
  (if r8 then
   (some (if decide (a0.N<1) then true else decide (anT<a0.N))).bind fun b10=>
   (if b10 then
    some false
   else
    jJ5 ())
  else if a0.N != 0 then
   some false
  else
   jJ5 ())))
def jQ (a0:Px) (a1:Int):Option (Bool):=
 jn (fun(v:Int)=>fP a0 v) (fun jJ2=>
 (if decide (4<a1) then
  jJ2 (4:Int)
 else
  jJ2 a1))
def yK:A9:=mC [ZA,GE] 226 Tryz.f226 (.s .n (.j ⟨[2],[A0 1],[[2]],[]⟩ .n (.s .n (.j ⟨[2],[],[[2]],[]⟩ .n .n)))) [.s 176, .k (.int .i64)] [.k (.bool)] (fun x=>jQ x.1 x.2.1) Tryz.func226 (by kernel_rfl)
def fQ (a0:CR) (asg:CR):Option (Bool):=
 (some (if decide (0<=a0.Kind) then decide (a0.Kind<=7)else false)).bind fun b3=>
 (some (if b3 then asg==(⟨a0.Kind,0,0,(⟨0,0,0,0,0,0,0,[],0,0,(⟨0,0⟩:As),(⟨0,0⟩:As),(⟨0,0⟩:As)⟩:Av)⟩:CR)else false)).bind fun b4=>
 some b4
def jR (a0:CR):Option (Bool):=
 jn (fun(v:CR)=>fQ a0 v) (fun jJ2=>
 (if a0.Kind==0 then
  (some (if decide (a0.N<0) then true else decide (1000000<a0.N))).bind fun b6=>
  (if b6 then
   some false
  else
   jJ2 ({a0 with N:=(0:Int)}))
 else if a0.Kind==2 then
  (some (if decide (a0.N<1) then true else decide (99<a0.N))).bind fun b9=>
  (gd (b9==false) (FM a0.Filter)).bind fun r10=>
  (some (if b9 then true else !r10)).bind fun b11=>
  (if b11 then
   some false
  else
   jJ2 ({{a0 with N:=(0:Int)}with Filter:=(⟨0,0,0,0,0,0,0,[],0,0,(⟨0,0⟩:As),(⟨0,0⟩:As),(⟨0,0⟩:As)⟩:Av)}))
 else if a0.Kind==4 then
  (Oh a0.R_).bind fun r14=>
  (if(r14==([]:List UInt8)) then
   some false
  else
   jJ2 ({a0 with R_:=(0:Int)}))
 else
  jJ2 a0))
def yL:A9:=mC [GE,ZB] 228 Tryz.f228 (.s .n (.s .n (.j ⟨[1,3],[],[[1]],[([3], .box [.v (.s 178)])]⟩ .n .n))) [.s 178] [.k (.bool)] (fun x=>jR x.1) Tryz.func228 (by kernel_rfl)
def P3 (a1:Av) (apB:Int):Option (Bool):=
 (FM a1).bind fun r3=>
 (some (if r3 then a1.O_==apB else false)).bind fun b4=>
 some b4
def QX (a0:Int) (a1:Av):Option (Bool):=
 jn (fun(v:Int)=>P3 a1 v) (fun jJ2=>
 (if a0==21 then
  jJ2 (2:Int)
 else
  jJ2 (0:Int)))
def jS:A9:=mC [GE] 231 Tryz.f231 (.s .n (.s .n (.j ⟨[3],[A0 5],[[3]],[]⟩ .n .n))) [.k (.int .i64), .s 110] [.k (.bool)] (fun x=>QX x.1 x.2.1) Tryz.func231 (by kernel_rfl)
def J3 (a0:Aa):Option (Bool):=
 (H8 a0 a0.l_ (0:Int) (-1:Int)).bind fun r4=>
 (gd (r4==true) (H8 a0 a0.T_ (4:Int) (-1:Int))).bind fun r5=>
 (some (if r4 then r5 else false)).bind fun b6=>
 some b6
def Is (a0:Aa) (ahQ:Int):Option ((Int)⊕(Unit⊕Bool)):=
 (if(decide (ahQ<(a0.a_.length:Int))) then
  (idx a0.a_ ahQ).bind fun e12=>
  (Eu e12.afD (-1000000:Int) (1000000:Int)).bind fun r13=>
  (gd ((!r13)==false) (Eu e12.ahw (0:Int) (1000000:Int))).bind fun r14=>
  (some (if !r13 then true else !r14)).bind fun b15=>
  (gd (b15==false) (Eu e12.ahz (0:Int) (1000000:Int))).bind fun r16=>
  (some (if b15 then true else !r16)).bind fun b17=>
  (gd (b17==false) (Pe e12.ab7)).bind fun r18=>
  (some (if b17 then true else !r18)).bind fun b19=>
  (if b19 then
   some (.inr (.inr false))
  else
   (H8 a0 e12.g_ (2:Int) ahQ).bind fun r21=>
   (gd ((!r21)==false) (H8 a0 e12.Hand (1:Int) ahQ)).bind fun r22=>
   (some (if !r21 then true else !r22)).bind fun b23=>
   (gd (b23==false) (H8 a0 e12.AT (3:Int) ahQ)).bind fun r24=>
   (some (if b23 then true else !r24)).bind fun b25=>
   (if b25 then
    some (.inr (.inr false))
   else
    some (.inl (Ab (ahQ+1)))))
 else
  some (.inr (.inl ())))
def KJ (a0:Aa):Option (Bool):=
 (Eu (a0.a_.length:Int) (2:Int) (4:Int)).bind fun r1=>
 (if !r1 then
  some false
 else
  jn (fun(v:Unit)=>J3 a0) (fun jJ3=>
  (iter (fun(v:Int)=>Is a0 v) FU (0:Int)).bind (Sum.elim (fun o0=>jJ3 ()) (fun o1=>some o1))))
def cQ:A9:=mC [Oi,m8,rn] 50 Tryz.f50 (.s .n (.s .n (.j ⟨[1],[],[[1]],[]⟩ (.s .n (.l ⟨[1],[A0 3],[[1]],[]⟩ [(1,⟨[1],[],[[1]],[]⟩),(0,⟨[],[EO 2],[],[]⟩)] .n)) .n))) [.s 36] [.k (.bool)] (fun x=>KJ x.1) Tryz.func50 (by kernel_rfl)
def az:Option (Int):=
 some (0:Int)
def WJ (agC:Int):Option ((Int)⊕(Unit⊕Int)):=
 some (.inl (Ab (agC+1)))
def WK (a0:Di) (e15:List (Int)) (alV:Int):Option ((Int)⊕(Unit⊕Int)):=
 (if(decide (alV<(e15.length:Int))) then
  (idx e15 alV).bind fun e21=>
  (some (if decide (e21<0) then true else decide ((a0.alO.length:Int)<=e21))).bind fun b22=>
  (gd (b22==false) (idx a0.alO e21)).bind fun e23=>
  (some (if b22 then true else e23.Token)).bind fun b24=>
  (if b24 then
   some (.inr (.inr (2:Int)))
  else
   some (.inl (Ab (alV+1))))
 else
  some (.inr (.inl ())))
def WL (a0:Di) (agC:Int):Option ((Int)⊕(Unit⊕Int)):=
 (if(decide (agC<(a0.ach.length:Int))) then
  jn (fun(v:Unit)=>WJ agC) (fun aiI=>
  (idx a0.ach agC).bind fun e15=>
  (iter (fun(v:Int)=>WK a0 e15 v) FU (0:Int)).bind (Sum.elim (fun o0=>aiI ()) (fun o1=>some (.inr (.inr o1)))))
 else
  some (.inr (.inl ())))
def aA (a0:Di):Option (Int):=
 jn (fun(v:Unit)=>az) (fun jJ8=>
 (iter (fun(v:Int)=>WL a0 v) FU (0:Int)).bind (Sum.elim (fun o0=>jJ8 ()) (fun o1=>some o1)))
def WM (a0:Di) (alY:Int):Option ((Int)⊕(Unit⊕Int)):=
 (if(decide (alY<(a0.ach.length:Int))) then
  (idx a0.ach alY).bind fun e31=>
  (if(decide (250<(e31.length:Int))) then
   some (.inr (.inr (5:Int)))
  else
   some (.inl (Ab (alY+1))))
 else
  some (.inr (.inl ())))
def V1 (a0:Di):Option (Int):=
 (P0 a0.alO).bind fun r1=>
 (if r1.2 != 0 then
  some r1.2
 else
  (some (if(decide ((a0.ach.length:Int)<2)) then true else decide (4<(a0.ach.length:Int)))).bind fun b3=>
  (some (if b3 then true else decide (a0.anA<0))).bind fun b4=>
  (some (if b4 then true else decide ((a0.ach.length:Int)<=a0.anA))).bind fun b5=>
  (if b5 then
   some (1:Int)
  else
   jn (fun(v:Unit)=>aA a0) (fun jJ7=>
   (iter (fun(v:Int)=>WM a0 v) FU (0:Int)).bind (Sum.elim (fun o0=>jJ7 ()) (fun o1=>some o1)))))
def cR:A9:=mC [WF] 21 Tryz.f21 (.s .n (.s .n (.s .n (.j ⟨[1],[],[[1]],[]⟩ (.s .n (.l ⟨[1,44,45],[A0 46],[[1]],[]⟩ [(1,⟨[1],[],[[1]],[]⟩),(0,⟨[],[A0 2],[],[]⟩)] .n)) (.j EN (.s .n (.l ⟨[1,55,56],[A0 57],[[1]],[]⟩ [(3,EN),(0,⟨[],[A0 2],[],[]⟩)] (.s .n (.s .n (.j ⟨[1,55,56,57],[],[[1]],[]⟩ (.s .n (.s .n (.l ⟨[1,55,56,57,61,62],[A0 63],[[1]],[]⟩ [(5,⟨[1,55,56,57],[],[[1]],[]⟩),(0,⟨[],[A0 2],[],[]⟩)] .n))) .n))))) .n))))) [.s 26] [.k (.int .i64)] (fun x=>V1 x.1) Tryz.func21 (by kernel_rfl)
def aB (asg:Aa):Option (Aa):=
 some asg
def CP (a1:Int) (a2:Int) (agA:Int) (amA:Aa):Option ((Int×Aa)⊕(Aa)):=
 (if decide (agA<a2) then
  (DU amA (2:Int) a1).bind fun r11=>
  (if((r11.length:Int)==0) then
   some (.inr amA)
  else
   (idx r11 (0:Int)).bind fun e13=>
   (EW amA e13 (1:Int) a1 false).bind fun r14=>
   some (.inl ((Ab (agA+1)),r14.1)))
 else
  some (.inr amA))
def Ib (a0:Aa) (a1:Int) (a2:Int):Option (Aa):=
 jn (fun(v:Aa)=>aB v) (fun jJ2=>
 (iter (fun(v:Int×Aa)=>CP a1 a2 v.1 v.2) FU ((0:Int),a0)).bind (fun o0=>jJ2 o0))
def P4:A9:=mC [KE,VY] 36 Tryz.f36 (.s .n (.j ⟨[3,6],[],[[6]],[([3], .box [.v (.s 36)])]⟩ (.s .n (.l ⟨[1,3,6,8],[A0 9],[[6]],[([3], .box [.v (.s 36)])]⟩ [(1,⟨[3,6],[],[[6]],[([3], .box [.v (.s 36)])]⟩)] (.s .n (.s .n (.s (.s .n (.s .n (.r [] [] (.t (.q 0 .lz .n))))) .n))))) .n)) [.s 36, .k (.int .i64), .k (.int .i64)] [.s 36] (fun x=>Ib x.1 x.2.1 x.2.2.1) Tryz.func36 (by kernel_rfl)
def cS (a0:Ac) (a1:List (Int)) (asH:Bool):Option (Bool):=
 (if asH then
  (ED a0 a1).bind fun r22=>
  (gd (r22==true) (SC a0 a1)).bind fun r23=>
  (some (if r22 then r23 else false)).bind fun b24=>
  some b24
 else if a0.Kind==8 then
  (Sl a0 a1).bind fun r26=>
  some r26
 else
  some false)
def MY (a0:Ac) (a1:List (Int)) (anP:Bool):Option (Bool):=
 (if anP then
  (gd (((a1.length:Int)==1)==true) (ED a0 a1)).bind fun r5=>
  (some (if((a1.length:Int)==1) then r5 else false)).bind fun b6=>
  some b6
 else if a0.Kind==3 then
  (some (if(decide (a0.aaW<=(a1.length:Int))) then decide ((a1.length:Int)<=a0.ahx)else false)).bind fun b8=>
  (gd (b8==true) (ED a0 a1)).bind fun r9=>
  (some (if b8 then r9 else false)).bind fun b10=>
  some b10
 else if a0.Kind==4 then
  (gd (((a1.length:Int)==(a0.Options.length:Int))==true) (ED a0 a1)).bind fun r12=>
  (some (if((a1.length:Int)==(a0.Options.length:Int)) then r12 else false)).bind fun b13=>
  some b13
 else if a0.Kind==5 then
  (gd (((a1.length:Int)==1)==true) (idx a1 (0:Int))).bind fun e15=>
  (some (if((a1.length:Int)==1) then decide (a0.aaW<=e15)else false)).bind fun b16=>
  (gd (b16==true) (idx a1 (0:Int))).bind fun e17=>
  (some (if b16 then decide (e17<=a0.ahx)else false)).bind fun b18=>
  some b18
 else
  jn (fun(v:Bool)=>cS a0 a1 v) (fun aiH=>
  (if a0.Kind==6 then
   aiH (a0.Kind==6)
  else
   aiH (a0.Kind==7))))
def Ga (a0:Ac) (a1:List (Int)):Option (Bool):=
 (if(decide (256<(a1.length:Int))) then
  some false
 else
  jn (fun(v:Bool)=>MY a0 a1 v) (fun jJ3=>
  (if a0.Kind==1 then
   jJ3 (a0.Kind==1)
  else if a0.Kind==2 then
   jJ3 (a0.Kind==2)
  else if a0.Kind==9 then
   jJ3 (a0.Kind==9)
  else if a0.Kind==10 then
   jJ3 (a0.Kind==10)
  else
   jJ3 (a0.Kind==11))))
def V2:A9:=mC [cH,ax,ZK] 81 Tryz.f81 (.s .n (.s .n (.s (.s .n (.j ⟨[1,2,9],[EO 10],[[2]],[]⟩ .n (.i .n (.s .n (.i .n (.s .n (.i .n (.s .n (.i .n (.j ⟨[1,2,9],[EO 77],[[2]],[]⟩ .n .n)))))))))) .n))) [.s 54, .k (.u_ 3)] [.k (.bool)] (fun x=>Ga x.1 x.2.1) Tryz.func81 (by kernel_rfl)
def KK (a1:Int) (awE:Aa):Option (Aa):=
 (DU awE (2:Int) a1).bind fun r3=>
 (DI awE.Tw r3).bind fun r4=>
 (SD awE (2:Int) a1 r4.1).bind fun r5=>
 some ({r5 with Tw:=r4.2})
def CQ (a1:Int) (r6:(List (Int))) (al1:Int) (anx:Aa):Option ((Int×Aa)⊕(Aa)):=
 (if(decide (al1<(r6.length:Int))) then
  (idx r6 al1).bind fun e15=>
  (EW anx e15 (2:Int) a1 false).bind fun r16=>
  some (.inl ((Ab (al1+1)),r16.1))
 else
  some (.inr anx))
def EE (a0:Aa) (a1:Int):Option (Aa):=
 jn (fun(v:Aa)=>KK a1 v) (fun jJ2=>
 (DU a0 (1:Int) a1).bind fun r6=>
 (iter (fun(v:Int×Aa)=>CQ a1 r6 v.1 v.2) FU ((0:Int),a0)).bind (fun o0=>jJ2 o0))
def L6:A9:=mC [KE,VY,OA,ro] 39 Tryz.f39 (.s .n (.j ⟨[1,2,4],[],[[4]],[([2], .box [.v (.s 36)])]⟩ (.s .n (.l ⟨[1,2,4,11,12],[A0 13],[[4]],[([2], .box [.v (.s 36)])]⟩ [(1,⟨[1,2,4],[],[[4]],[([2], .box [.v (.s 36)])]⟩)] .n)) (.s (.r [] [] (.t (.q 2 .lz .n))) .n))) [.s 36, .k (.int .i64)] [.s 36] (fun x=>EE x.1 x.2.1) Tryz.func39 (by kernel_rfl)
def MZ (a2:Int) (r10:Ae) (r11:Aa) (aq_:List (Int)):Option (Aa×Int):=
 (IP r11 a2 r10.p_ aq_).bind fun r15=>
 some ({{r15 with f_:=Ab (r15.f_+1)}with c_:=Ab ((({r15 with f_:=Ab (r15.f_+1)}).c_)+(1:Int))},r10.Id)
def Dx (a0:Aa) (a1:Int) (a2:Int) (a3:Int) (a4:Bool):Option (Aa×Int):=
 (L5 a0 a1).bind fun r1=>
 (some (if !r1.2 then true else decide (a2<0))).bind fun b2=>
 (some (if b2 then true else decide (5<a2))).bind fun b3=>
 (if b3 then
  (JY a0).bind fun r5=>
  some ((⟨r5.a_,r5.b_,r5.l_,r5.T_,r5.Stack,r5.o_,r5.v_,r5.I_,r5.k_,r5.Step,r5.H_,r5.Priority,r5.Passes,r5.f_,r5.c_,r5.Tw,r5.Extra,r5.aae,r5.z_⟩:Aa),(0:Int))
 else
  (F9 a0 a1).bind fun r6=>
  (some (if r1.1.Token then a2 != 0 else false)).bind fun b7=>
  (some (if b7 then a2 != 5 else false)).bind fun b8=>
  (if b8 then
   some (r6,(0:Int))
  else
   (Ph r1.1 r6.f_ a2 a3 r6.c_).bind fun r10=>
   (Xe r6 r10).bind fun r11=>
   (DO r11 a2 r10.p_).bind fun r12=>
   jn (fun(v:(List (Int)))=>MZ a2 r10 r11 v) (fun aiI=>
   (some (if a2==2 then !a4 else false)).bind fun b16=>
   (if b16 then
    (app 8 ([r10.Id]:List (Int)) r12).bind fun l18=>
    aiI l18
   else
    (app 8 r12 ([r10.Id]:List (Int))).bind fun l19=>
    aiI l19))))
def aD:A9:=mC [ZW,MN,cN,nC,vV,MM,UE] 125 Tryz.f125 (.s .n (.s .n (.s (.s .n (.i (.s (.r [] [] (.q 1 .co .n)) .n) .n)) (.s .n (.s .n (.s .n (.s .n (.s (.r [] [] (.q 4 .co .n)) (.j ⟨[2,10,14,15],[(16, .c (.v (.k (.u_ 3))))],[[10],[14],[15]],[]⟩ .n (.s .n (.s .n (.s .n (.s (.r [] [] (.t (.q 0 .lz .n))) .n))))))))))))) [.s 36, .k (.int .i64), .k (.int .i64), .k (.int .i64), .k (.bool)] [.s 36, .k (.int .i64)] (fun x=>Dx x.1 x.2.1 x.2.2.1 x.2.2.2.1 x.2.2.2.2.1) Tryz.func125 (by kernel_rfl)
def Ng (a0:AE) (a1:AE):Option (Bool):=
 (some (if a0.Id==a1.Id then a0.Kind==a1.Kind else false)).bind fun b3=>
 (some (if b3 then a0.Source==a1.Source else false)).bind fun b4=>
 (some (if b4 then a0.Control==a1.Control else false)).bind fun b5=>
 (some (if b5 then a0.X==a1.X else false)).bind fun b6=>
 (some (if b6 then a0.alc==a1.alc else false)).bind fun b7=>
 (gd (b7==true) (GG a0.C_ a1.C_)).bind fun r8=>
 (some (if b7 then r8 else false)).bind fun b9=>
 (some (if b9 then a0.Event==a1.Event else false)).bind fun b10=>
 some b10
def Ht (a0:AE) (a1:AE) (ai3:Int):Option ((Int)⊕(Unit⊕Bool)):=
 (if(decide (ai3<(a0.aaF.length:Int))) then
  (idx a0.aaF ai3).bind fun e16=>
  (idx a1.aaF ai3).bind fun e17=>
  (if !(e16==e17) then
   some (.inr (.inr false))
  else
   some (.inl (Ab (ai3+1))))
 else
  some (.inr (.inl ())))
def IT (a0:AE) (a1:AE):Option (Bool):=
 (if((a0.aaF.length:Int) != (a1.aaF.length:Int)) then
  some false
 else
  jn (fun(v:Unit)=>Ng a0 a1) (fun jJ2=>
  (iter (fun(v:Int)=>Ht a0 a1 v) FU (0:Int)).bind (Sum.elim (fun o0=>jJ2 ()) (fun o1=>some o1))))
def aE:A9:=mC [QW] 59 Tryz.f59 (.s .n (.s .n (.j ⟨[2,3],[],[[2],[3]],[]⟩ (.s .n (.l ⟨[2,3],[A0 5],[[2],[3]],[]⟩ [(1,⟨[2,3],[],[[2],[3]],[]⟩),(0,⟨[],[EO 4],[],[]⟩)] .n)) .n))) [.s 126, .s 126] [.k (.bool)] (fun x=>IT x.1 x.2.1) Tryz.func59 (by kernel_rfl)
def Fv (a0:AA) (a1:AA):Option (Bool):=
 (some (if a0.Source==a1.Source then a0.Control==a1.Control else false)).bind fun b1=>
 (gd (b1==true) (GG a0.C_ a1.C_)).bind fun r2=>
 (some (if b1 then r2 else false)).bind fun b3=>
 (some (if b3 then a0.Event==a1.Event else false)).bind fun b4=>
 some b4
def SR:A9:=mC [QW] 60 Tryz.f60 .n [.s 129, .s 129] [.k (.bool)] (fun x=>Fv x.1 x.2.1) Tryz.func60 (by kernel_rfl)
end Go.PL
