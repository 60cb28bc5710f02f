/- Functions of the program, as partial functions in Lean, with proofs. -/
import Derived.Test.YtekonfaeacligaaGreatDoorPlLsB
import Derived.Test.YtekonfaeacligaaGreatDoorPlLsF0
import Derived.Test.YtekonfaeacligaaGreatDoorPlLsF1
import Derived.Test.YtekonfaeacligaaGreatDoorPlLsF2
import Derived.Test.YtekonfaeacligaaGreatDoorPlLsF3
namespace Go.PL
open Go Go.RowKit Go.Proofs
set_option maxRecDepth 100000
set_option linter.all false
set_option maxHeartbeats 4000000
attribute [local irreducible] Ak BW BI
def JX (a0:BG) (ahz:Bool):Option (Bool):=
 (if ahz then
  (some (if decide (1<=a0.N) then decide (a0.N<=131071)else false)).bind fun b20=>
  some b20
 else if a0.Kind==11 then
  (D5 a0.Filter).bind fun r22=>
  some r22
 else if a0.Kind==12 then
  (some (if decide (0<=a0.N) then decide (a0.N<=99)else false)).bind fun b24=>
  (some (if b24 then decide (0<=a0.M)else false)).bind fun b25=>
  (some (if b25 then decide (a0.M<=99)else false)).bind fun b26=>
  some b26
 else if a0.Kind==13 then
  (some (if(decide ((-99:Int)<=a0.N)) then decide (a0.N<=99)else false)).bind fun b28=>
  (some (if b28 then decide ((-99:Int)<=a0.M)else false)).bind fun b29=>
  (some (if b29 then decide (a0.M<=99)else false)).bind fun b30=>
  some b30
 else
  some true)
def JY (a0:BG) (aiQ:Bool):Option (Bool):=
 (if aiQ then
  (GH a0.Sub).bind fun r12=>
  some r12
 else if a0.Kind==6 then
  (some (if decide (0<=a0.N) then decide (a0.N<=31)else false)).bind fun b14=>
  some b14
 else if a0.Kind==7 then
  (some (if decide (1<=a0.N) then decide (a0.N<=31)else false)).bind fun b16=>
  some b16
 else
  jn (fun(v:Bool)=>JX a0 v) (fun afk=>
  (if a0.Kind==8 then
   afk (a0.Kind==8)
  else
   afk (a0.Kind==9))))
def Ms (a0:BG) (aiR:Bool):Option (Bool):=
 (if aiR then
  (Ml a0.N).bind fun r8=>
  some r8
 else
  jn (fun(v:Bool)=>JY a0 v) (fun agO=>
  (if a0.Kind==4 then
   agO (a0.Kind==4)
  else
   agO (a0.Kind==5))))
def IE (a0:BG):Option (Bool):=
 (some (if decide (a0.Kind<1) then true else decide (14<a0.Kind))).bind fun b1=>
 (gd (b1==false) (Lv a0)).bind fun r2=>
 (some (if b1 then true else !(r2==(⟨0,0,0,[],(⟨0,0,0,0,0,0,0,[],0,0,(⟨0,0⟩:Ag),(⟨0,0⟩:Ag),(⟨0,0⟩:Ag)⟩:Am)⟩:BG)))).bind fun b3=>
 (if b3 then
  some false
 else
  jn (fun(v:Bool)=>Ms a0 v) (fun jJ6=>
  (if a0.Kind==2 then
   jJ6 (a0.Kind==2)
  else
   jJ6 (a0.Kind==3))))
def gF:BH:=mC [kB,gc,LI,EE] 68 Tryz.f68 (.s .n (.s .n (.s (.s .n (.j ⟨[1,18],[GE 19],[[1]],[]⟩ .n (.i .n (.j ⟨[1,18],[GE 25],[[1]],[]⟩ .n (.i .n (.s .n (.i .n (.s .n (.i .n (.j ⟨[1,18],[GE 51],[[1]],[]⟩ .n .n)))))))))) .n))) [.s 100] [.k (.bool)] (fun x=>IE x.1) Tryz.func68 (by kernel_rfl)
def Pa (aih:List (List UInt8)):Option ((List UInt8)):=
 (if((aih.length:Int)==0) then
  some xd
 else
  (OU aih xe).bind fun r41=>
  some r41)
def Pb (a0:Am) (aii:List (List UInt8)):Option ((List UInt8)):=
 (CX pE a0.Value).bind fun r37=>
 jn (fun(v:(List (List UInt8)))=>Pa v) (fun agL=>
 (if(r37==([]:List UInt8)) then
  agL aii
 else
  (app 16 aii ([r37]:List (List UInt8))).bind fun l43=>
  agL l43))
def Pc (a0:Am) (aij:List (List UInt8)):Option ((List UInt8)):=
 (CX pC a0.aa9).bind fun r34=>
 jn (fun(v:(List (List UInt8)))=>Pb a0 v) (fun ak8=>
 (if(r34==([]:List UInt8)) then
  ak8 aij
 else
  (app 16 aij ([r34]:List (List UInt8))).bind fun l45=>
  ak8 l45))
def Pd (a0:Am) (aik:List (List UInt8)):Option ((List UInt8)):=
 (CX pB a0.Power).bind fun r31=>
 jn (fun(v:(List (List UInt8)))=>Pc a0 v) (fun ak9=>
 (if(r31==([]:List UInt8)) then
  ak9 aik
 else
  (app 16 aik ([r31]:List (List UInt8))).bind fun l47=>
  ak9 l47))
def Pe (a0:Am) (r6:(List (List UInt8))) (ail:List (List UInt8)):Option ((List UInt8)):=
 (idx r6 a0.Tap).bind fun e28=>
 jn (fun(v:(List (List UInt8)))=>Pd a0 v) (fun ak_=>
 (if(e28==([]:List UInt8)) then
  ak_ ail
 else
  (app 16 ail ([e28]:List (List UInt8))).bind fun l49=>
  ak_ l49))
def bB (ab1:Int) (akY:List (List UInt8)):Option ((Int×(List (List UInt8)))⊕((List (List UInt8)))):=
 some (.inl ((Aj (ab1+1)),akY))
def JZ (a0:Am) (ab1:Int) (agH:List (List UInt8)):Option ((Int×(List (List UInt8)))⊕((List (List UInt8)))):=
 (if decide (ab1<17) then
  jn (fun(v:(List (List UInt8)))=>bB ab1 v) (fun ak7=>
  (Ie a0.Keys ab1).bind fun r60=>
  (if r60 then
   (O2 ab1).bind fun r62=>
   (cat QD r62).bind fun s63=>
   (app 16 agH ([s63]:List (List UInt8))).bind fun l64=>
   ak7 l64
  else
   ak7 agH))
 else
  some (.inr agH))
def J0 (a0:Am) (r6:(List (List UInt8))) (akZ:List (List UInt8)):Option ((List UInt8)):=
 jn (fun(v:(List (List UInt8)))=>Pe a0 r6 v) (fun agM=>
 (iter (fun(v:Int×(List (List UInt8)))=>JZ a0 v.1 v.2) FU ((0:Int),akZ)).bind (fun o0=>agM o0))
def Pf (a0:Am) (r6:(List (List UInt8))) (aim:List (List UInt8)):Option ((List UInt8)):=
 jn (fun(v:(List (List UInt8)))=>J0 a0 r6 v) (fun ala=>
 (if(a0.Sub != ([]:List UInt8)) then
  (cat MQ a0.Sub).bind fun s66=>
  (app 16 aim ([s66]:List (List UInt8))).bind fun l67=>
  ala l67
 else
  ala aim))
def bC (ab2:Int) (akX:List (List UInt8)):Option ((Int×(List (List UInt8)))⊕((List (List UInt8)))):=
 some (.inl ((Aj (ab2+1)),akX))
def J1 (a0:Am) (ab2:Int) (agG:List (List UInt8)):Option ((Int×(List (List UInt8)))⊕((List (List UInt8)))):=
 (if decide (ab2<5) then
  jn (fun(v:(List (List UInt8)))=>bC ab2 v) (fun ak6=>
  (Ie a0.aaY ab2).bind fun r78=>
  (if r78 then
   (Lw ab2).bind fun r80=>
   (cat Jd r80).bind fun s81=>
   (app 16 agG ([s81]:List (List UInt8))).bind fun l82=>
   ak6 l82
  else
   ak6 agG))
 else
  some (.inr agG))
def Pg (a0:Am) (r6:(List (List UInt8))) (ak0:List (List UInt8)):Option ((List UInt8)):=
 jn (fun(v:(List (List UInt8)))=>Pf a0 r6 v) (fun anR=>
 (iter (fun(v:Int×(List (List UInt8)))=>J1 a0 v.1 v.2) FU ((0:Int),ak0)).bind (fun o0=>anR o0))
def bD (ab3:Int) (akV:List (List UInt8)):Option ((Int×(List (List UInt8)))⊕((List (List UInt8)))):=
 some (.inl ((Aj (ab3+1)),akV))
def J2 (a0:Am) (ab3:Int) (agF:List (List UInt8)):Option ((Int×(List (List UInt8)))⊕((List (List UInt8)))):=
 (if decide (ab3<5) then
  jn (fun(v:(List (List UInt8)))=>bD ab3 v) (fun ak5=>
  (Ie a0.ac1 ab3).bind fun r93=>
  (if r93 then
   (Lw ab3).bind fun r95=>
   (app 16 agF ([r95]:List (List UInt8))).bind fun l96=>
   ak5 l96
  else
   ak5 agF))
 else
  some (.inr agF))
def Ph (a0:Am) (r6:(List (List UInt8))) (ak1:List (List UInt8)):Option ((List UInt8)):=
 jn (fun(v:(List (List UInt8)))=>Pg a0 r6 v) (fun agN=>
 (iter (fun(v:Int×(List (List UInt8)))=>J2 a0 v.1 v.2) FU ((0:Int),ak1)).bind (fun o0=>agN o0))
def W9 (abY:Int) (ai9:List (List UInt8)):Option ((Int×(List (List UInt8)))⊕((List (List UInt8)))):=
 some (.inl ((Aj (abY+1)),ai9))
def IF (a0:Am) (abY:Int) (aff:List (List UInt8)):Option ((Int×(List (List UInt8)))⊕((List (List UInt8)))):=
 (if decide (abY<6) then
  jn (fun(v:(List (List UInt8)))=>W9 abY v) (fun aiq=>
  (Ie a0.abo abY).bind fun anH=>
  (if anH then
   (Gp abY).bind fun anG=>
   (cat Jd anG).bind fun anv=>
   (app 16 aff ([anv]:List (List UInt8))).bind fun anP=>
   aiq anP
  else
   aiq aff))
 else
  some (.inr aff))
def Pi (a0:Am) (r6:(List (List UInt8))) (ak2:List (List UInt8)):Option ((List UInt8)):=
 jn (fun(v:(List (List UInt8)))=>Ph a0 r6 v) (fun afj=>
 (iter (fun(v:Int×(List (List UInt8)))=>IF a0 v.1 v.2) FU ((0:Int),ak2)).bind (fun o0=>afj o0))
def Xa (abZ:Int) (ai8:List (List UInt8)):Option ((Int×(List (List UInt8)))⊕((List (List UInt8)))):=
 some (.inl ((Aj (abZ+1)),ai8))
def IG (a0:Am) (abZ:Int) (afe:List (List UInt8)):Option ((Int×(List (List UInt8)))⊕((List (List UInt8)))):=
 (if decide (abZ<6) then
  jn (fun(v:(List (List UInt8)))=>Xa abZ v) (fun aip=>
  (Ie a0.Types abZ).bind fun anF=>
  (if anF then
   (Gp abZ).bind fun anE=>
   (app 16 afe ([anE]:List (List UInt8))).bind fun anO=>
   aip anO
  else
   aip afe))
 else
  some (.inr afe))
def Pj (a0:Am) (r6:(List (List UInt8))) (ak3:List (List UInt8)):Option ((List UInt8)):=
 jn (fun(v:(List (List UInt8)))=>Pi a0 r6 v) (fun ahR=>
 (iter (fun(v:Int×(List (List UInt8)))=>IG a0 v.1 v.2) FU ((0:Int),ak3)).bind (fun o0=>ahR o0))
def Pk (a0:Am) (r5:(List (List UInt8))) (r6:(List (List UInt8))) (ain:List (List UInt8)):Option ((List UInt8)):=
 (idx r5 a0.Self).bind fun e13=>
 jn (fun(v:(List (List UInt8)))=>Pj a0 r6 v) (fun aeL=>
 (if(e13==([]:List UInt8)) then
  aeL ain
 else
  (app 16 ain ([e13]:List (List UInt8))).bind fun anN=>
  aeL anN))
def R4 (a0:Am) (r4:(List (List UInt8))) (r5:(List (List UInt8))) (r6:(List (List UInt8))) (akW:List (List UInt8)):Option ((List UInt8)):=
 (idx r4 a0.Who).bind fun e10=>
 jn (fun(v:(List (List UInt8)))=>Pk a0 r5 r6 v) (fun ald=>
 (if(e10==([]:List UInt8)) then
  ald akW
 else
  (app 16 akW ([e10]:List (List UInt8))).bind fun anM=>
  ald anM))
def Pl (a0:Am):Option ((List UInt8)):=
 (D5 a0).bind fun r1=>
 (if !r1 then
  some ([]:List UInt8)
 else
  (MT).bind fun r3=>
  (OS).bind fun r4=>
  (MU).bind fun r5=>
  (OT).bind fun r6=>
  (idx r3 a0.F_).bind fun e7=>
  jn (fun(v:(List (List UInt8)))=>R4 a0 r4 r5 r6 v) (fun jJ9=>
  (if(e7==([]:List UInt8)) then
   jJ9 ([]:List (List UInt8))
  else
   (app 16 ([]:List (List UInt8)) ([e7]:List (List UInt8))).bind fun anL=>
   jJ9 anL)))
def kW:BH:=mC [EE,Sf,V4,Si,V5,pP,Wn,V3,Wj,So,kD] 121 Tryz.f121 (.s .n (.s .n (.s .n (.s .n (.s .n (.s .n (.s .n (.s (.r [] [] (.j 6 ⟨[1,4,5,6],[(26, .c (.c (.l_ [7])))],[[1]],[([7], .row 9)]⟩ .n .n)) (.s (.r [] [] (.j 6 ⟨[1,5,6],[(33, .c (.c (.l_ [7])))],[[1]],[([7], .row 9)]⟩ .n .n)) (.s (.r [] [] (.j 6 ⟨[1,6],[(40, .c (.c (.l_ [7])))],[[1]],[([7], .row 9)]⟩ .n .n)) (.j ⟨[1,6],[(7, .c (.c (.l_ [7])))],[[1]],[([7], .row 9)]⟩ (.s .n (.l ⟨[1,6],[(7, .c (.c (.l_ [7]))),Ci 8],[[1]],[([7], .row 9)]⟩ [(1,⟨[1,6],[(7, .c (.c (.l_ [7])))],[[1]],[([7], .row 9)]⟩)] (.s .n (.j ⟨[1,6,8],[(7, .c (.c (.l_ [7])))],[[1]],[([7], .row 9)]⟩ .n .n)))) (.j ⟨[1,6],[(7, .c (.c (.l_ [7])))],[[1]],[([7], .row 9)]⟩ (.s .n (.l ⟨[1,6],[(7, .c (.c (.l_ [7]))),Ci 9],[[1]],[([7], .row 9)]⟩ [(3,⟨[1,6],[(7, .c (.c (.l_ [7])))],[[1]],[([7], .row 9)]⟩)] (.s .n (.j ⟨[1,6,9],[(7, .c (.c (.l_ [7])))],[[1]],[([7], .row 9)]⟩ .n .n)))) (.j ⟨[1,6],[(7, .c (.c (.l_ [7])))],[[1]],[([7], .row 9)]⟩ (.s .n (.l ⟨[1,6],[(7, .c (.c (.l_ [7]))),Ci 10],[[1]],[([7], .row 9)]⟩ [(5,⟨[1,6],[(7, .c (.c (.l_ [7])))],[[1]],[([7], .row 9)]⟩)] (.s .n (.j ⟨[1,6,10],[(7, .c (.c (.l_ [7])))],[[1]],[([7], .row 9)]⟩ .n .n)))) (.j ⟨[1,6],[(7, .c (.c (.l_ [7])))],[[1]],[([7], .row 9)]⟩ (.s .n (.l ⟨[1,6],[(7, .c (.c (.l_ [7]))),Ci 11],[[1]],[([7], .row 9)]⟩ [(7,⟨[1,6],[(7, .c (.c (.l_ [7])))],[[1]],[([7], .row 9)]⟩)] (.s .n (.j ⟨[1,6,11],[(7, .c (.c (.l_ [7])))],[[1]],[([7], .row 9)]⟩ .n .n)))) (.j ⟨[1,6],[(7, .c (.c (.l_ [7])))],[[1]],[([7], .row 9)]⟩ .n (.j ⟨[1,6],[(7, .c (.c (.l_ [7])))],[[1]],[([7], .row 9)]⟩ (.s .n (.l ⟨[1,6],[(7, .c (.c (.l_ [7]))),Ci 12],[[1]],[([7], .row 9)]⟩ [(9,⟨[1,6],[(7, .c (.c (.l_ [7])))],[[1]],[([7], .row 9)]⟩)] (.s .n (.j ⟨[1,6,12],[(7, .c (.c (.l_ [7])))],[[1]],[([7], .row 9)]⟩ .n .n)))) (.s (.r [] [] (.j 6 ⟨[1],[(124, .c (.c (.l_ [7])))],[[1]],[([7], .row 9)]⟩ .n .n)) (.s (.r [] [] (.j 4 ⟨[1],[(129, .c (.c (.l_ [7])))],[[1]],[([7], .row 9)]⟩ .n .n)) (.s (.r [] [] (.j 4 ⟨[1],[(134, .c (.c (.l_ [7])))],[[1]],[([7], .row 9)]⟩ .n .n)) (.s (.r [] [] (.j 4 ⟨[],[(139, .c (.c (.l_ [7])))],[],[([7], .row 9)]⟩ .n .n)) .n)))))))))))))))))))) [.s 56] [.k (.str)] (fun x=>Pl x.1) Tryz.func121 (by kernel_rfl)
def Wp (a0:Bu) (af6:Int):Option (Bool):=
 (D5 a0.Filter).bind fun r11=>
 (some (if r11 then a0.Filter.F_==af6 else false)).bind fun b12=>
 some b12
def bE (a0:Bu):Option (Bool):=
 (Lx a0.afA).bind fun r1=>
 (some (if(r1==([]:List UInt8)) then true else decide (a0.Who<0))).bind fun b2=>
 (some (if b2 then true else decide (2<a0.Who))).bind fun b3=>
 (gd (b3==false) (Hx a0.afA)).bind fun r4=>
 (some (if !r4 then a0.Who != 0 else false)).bind fun b5=>
 (if(if b3=true then true else b5) then
  some false
 else
  (Ix a0.afA).bind fun r7=>
  (if !r7 then
   some (a0.Filter==(⟨0,0,0,0,0,0,0,[],0,0,(⟨0,0⟩:Ag),(⟨0,0⟩:Ag),(⟨0,0⟩:Ag)⟩:Am))
  else
   jn (fun(v:Int)=>Wp a0 v) (fun agO=>
   (if a0.afA==9 then
    agO (5:Int)
   else
    agO (0:Int)))))
def tL:BH:=mC [V7,OV,Sn,EE] 56 Tryz.f56 (.s .n (.s .n (.s .n (.s .n (.j ⟨[1],[Ci 3],[[1]],[]⟩ .n .n))))) [.s 64] [.k (.bool)] (fun x=>bE x.1) Tryz.func56 (by kernel_rfl)
def GI (a0:Am):Option (Bool):=
 (D5 a0).bind fun r1=>
 (some (if r1 then a0.F_==0 else false)).bind fun b2=>
 some b2
def R5:BH:=mC [EE] 109 Tryz.f109 .n [.s 56] [.k (.bool)] (fun x=>GI x.1) Tryz.func109 (by kernel_rfl)
def Pm (a0:Dr):Option (Bool):=
 (if !a0.Object then
  (some (if a0.abh then a0.Filter==(⟨0,0,0,0,0,0,0,[],0,0,(⟨0,0⟩:Ag),(⟨0,0⟩:Ag),(⟨0,0⟩:Ag)⟩:Am)else false)).bind fun b2=>
  some b2
 else
  (D5 a0.Filter).bind fun r3=>
  (some (if a0.Filter.F_==0 then true else a0.Filter.F_==3)).bind fun b4=>
  (some (if b4 then true else a0.Filter.F_==5)).bind fun b5=>
  (some (if r3 then b5 else false)).bind fun b6=>
  some b6)
def kX:BH:=mC [EE] 110 Tryz.f110 .n [.s 102] [.k (.bool)] (fun x=>Pm x.1) Tryz.func110 (by kernel_rfl)
def Y8 (a0:ME):Option (Bool):=
 (if a0.Kind==4 then
  (D5 a0.Filter).bind fun r7=>
  some r7
 else
  some (a0.Filter==(⟨0,0,0,0,0,0,0,[],0,0,(⟨0,0⟩:Ag),(⟨0,0⟩:Ag),(⟨0,0⟩:Ag)⟩:Am)))
def Y9 (a0:ME) (ae8:Int):Option (Bool):=
 (some (if decide (a0.Kind<1) then true else decide (8<a0.Kind))).bind fun b3=>
 (if b3 then
  some false
 else
  jn (fun(v:Unit)=>Y8 a0) (fun jJ5=>
  (JR a0.Kind).bind fun r8=>
  (if r8 then
   (some (if decide (a0.N<1) then true else decide (ae8<a0.N))).bind fun b10=>
   (if b10 then
    some false
   else
    jJ5 ())
  else if a0.N != 0 then
   some false
  else
   jJ5 ())))
def bG (a0:ME) (a1:Int):Option (Bool):=
 jn (fun(v:Int)=>Y9 a0 v) (fun jJ2=>
 (if decide (4<a1) then
  jJ2 (4:Int)
 else
  jJ2 a1))
def tM:BH:=mC [V8,EE] 167 Tryz.f167 (.s .n (.j ⟨[2],[Ci 1],[[2]],[]⟩ .n (.s .n (.j ⟨[2],[],[[2]],[]⟩ .n .n)))) [.s 108, .k (.int .i64)] [.k (.bool)] (fun x=>bG x.1 x.2.1) Tryz.func167 (by kernel_rfl)
def Za (a0:B9) (apR:B9):Option (Bool):=
 (some (if decide (0<=a0.Kind) then decide (a0.Kind<=7)else false)).bind fun b3=>
 (some (if b3 then apR==(⟨a0.Kind,0,0,(⟨0,0,0,0,0,0,0,[],0,0,(⟨0,0⟩:Ag),(⟨0,0⟩:Ag),(⟨0,0⟩:Ag)⟩:Am)⟩:B9)else false)).bind fun b4=>
 some b4
def bH (a0:B9):Option (Bool):=
 jn (fun(v:B9)=>Za a0 v) (fun jJ2=>
 (if a0.Kind==0 then
  (some (if decide (a0.N<0) then true else decide (1000000<a0.N))).bind fun b6=>
  (if b6 then
   some false
  else
   jJ2 ({a0 with N:=(0:Int)}))
 else if a0.Kind==2 then
  (some (if decide (a0.N<1) then true else decide (99<a0.N))).bind fun b9=>
  (gd (b9==false) (D5 a0.Filter)).bind fun r10=>
  (some (if b9 then true else !r10)).bind fun b11=>
  (if b11 then
   some false
  else
   jJ2 ({{a0 with N:=(0:Int)}with Filter:=(⟨0,0,0,0,0,0,0,[],0,0,(⟨0,0⟩:Ag),(⟨0,0⟩:Ag),(⟨0,0⟩:Ag)⟩:Am)}))
 else if a0.Kind==4 then
  (LC a0.q_).bind fun r14=>
  (if(r14==([]:List UInt8)) then
   some false
  else
   jJ2 ({a0 with q_:=(0:Int)}))
 else
  jJ2 a0))
def tN:BH:=mC [EE,V9] 169 Tryz.f169 (.s .n (.s .n (.j ⟨[1,3],[],[[1]],[([3], .box [.v (.s 110)])]⟩ .n .n))) [.s 110] [.k (.bool)] (fun x=>bH x.1) Tryz.func169 (by kernel_rfl)
def MX (a1:Am) (af5:Int):Option (Bool):=
 (D5 a1).bind fun r3=>
 (some (if r3 then a1.F_==af5 else false)).bind fun b4=>
 some b4
def NM (a0:Int) (a1:Am):Option (Bool):=
 jn (fun(v:Int)=>MX a1 v) (fun jJ2=>
 (if a0==21 then
  jJ2 (2:Int)
 else
  jJ2 (0:Int)))
def bI:BH:=mC [EE] 172 Tryz.f172 (.s .n (.s .n (.j ⟨[3],[Ci 5],[[3]],[]⟩ .n .n))) [.k (.int .i64), .s 56] [.k (.bool)] (fun x=>NM x.1 x.2.1) Tryz.func172 (by kernel_rfl)
def HE (a0:AF):Option (Bool):=
 (FP a0 a0.Tl (0:Int) (-1:Int)).bind fun r4=>
 (gd (r4==true) (FP a0 a0.ac5 (4:Int) (-1:Int))).bind fun r5=>
 (some (if r4 then r5 else false)).bind fun b6=>
 some b6
def FV (a0:AF) (aa2:Int):Option ((Int)⊕(Unit⊕Bool)):=
 (if(decide (aa2<(a0.e_.length:Int))) then
  (idx a0.e_ aa2).bind fun e12=>
  (Ds e12.ad4 (-1000000:Int) (1000000:Int)).bind fun r13=>
  (gd ((!r13)==false) (Ds e12.ahj (0:Int) (1000000:Int))).bind fun r14=>
  (some (if !r13 then true else !r14)).bind fun b15=>
  (gd (b15==false) (Ds e12.ahm (0:Int) (1000000:Int))).bind fun r16=>
  (some (if b15 then true else !r16)).bind fun b17=>
  (gd (b17==false) (Mo e12.aa_)).bind fun r18=>
  (some (if b17 then true else !r18)).bind fun b19=>
  (if b19 then
   some (.inr (.inr false))
  else
   (FP a0 e12.aaV (2:Int) aa2).bind fun r21=>
   (gd ((!r21)==false) (FP a0 e12.Hand (1:Int) aa2)).bind fun r22=>
   (some (if !r21 then true else !r22)).bind fun b23=>
   (gd (b23==false) (FP a0 e12.aaF (3:Int) aa2)).bind fun r24=>
   (some (if b23 then true else !r24)).bind fun b25=>
   (if b25 then
    some (.inr (.inr false))
   else
    some (.inl (Aj (aa2+1)))))
 else
  some (.inr (.inl ())))
def Ih (a0:AF):Option (Bool):=
 (Ds (a0.e_.length:Int) (2:Int) (4:Int)).bind fun r1=>
 (if !r1 then
  some false
 else
  jn (fun(v:Unit)=>HE a0) (fun jJ3=>
  (iter (fun(v:Int)=>FV a0 v) FU (0:Int)).bind (Sum.elim (fun o0=>jJ3 ()) (fun o1=>some o1))))
def Xb:BH:=mC [LD,gq,kU] 19 Tryz.f19 (.s .n (.s .n (.j ⟨[1],[],[[1]],[]⟩ (.s .n (.l ⟨[1],[Ci 3],[[1]],[]⟩ [(1,⟨[1],[],[[1]],[]⟩),(0,⟨[],[GE 2],[],[]⟩)] .n)) .n))) [.s 31] [.k (.bool)] (fun x=>Ih x.1) Tryz.func19 (by kernel_rfl)
end Go.PL
