/- Functions of the program, as partial functions in Lean, with proofs. -/
import Derived.Test.YteginlijmbcopaaGreatDoorPlBdB
import Derived.Test.YteginlijmbcopaaGreatDoorPlBdF0
import Derived.Test.YteginlijmbcopaaGreatDoorPlBdF1
import Derived.Test.YteginlijmbcopaaGreatDoorPlBdF2
namespace Go.PL
open Go Go.RowKit Go.Proofs
set_option maxRecDepth 100000
set_option linter.all false
set_option maxHeartbeats 4000000
attribute [local irreducible] Ae Cq Cl
def R5:Option (Bool):=
 some true
def IF (a0:Ja) (afl:Int):Option ((Int)⊕(Unit⊕Bool)):=
 (if(decide (afl<(a0.adK.length:Int))) then
  (idx a0.adK afl).bind fun e14=>
  (HJ e14).bind fun r15=>
  (gd (((!r15)==false)&&((decide (0<afl))==true)) (idx a0.adK (Aa (afl - 1)))).bind fun e16=>
  (some (if decide (0<afl) then !(Op.bytesLess e16 e14)else false)).bind fun b17=>
  (some (if !r15 then true else b17)).bind fun b18=>
  (if b18 then
   some (.inr (.inr false))
  else
   some (.inl (Aa (afl+1))))
 else
  some (.inr (.inl ())))
def Uh (a0:Ja):Option (Bool):=
 (some (if decide (a0.afQ<0) then true else decide (3<a0.afQ))).bind fun b1=>
 (some (if b1 then true else decide (a0.Types<1))).bind fun b2=>
 (some (if b2 then true else decide (63<a0.Types))).bind fun b3=>
 (gd (b3==false) (H5 a0.Types)).bind fun r4=>
 (some (if b3 then true else !r4)).bind fun b5=>
 (some (if b5 then true else decide (4<(a0.adK.length:Int)))).bind fun b6=>
 (if b6 then
  some false
 else
  jn (fun(v:Unit)=>R5) (fun jJ8=>
  (iter (fun(v:Int)=>IF a0 v) FU (0:Int)).bind (Sum.elim (fun o0=>jJ8 ()) (fun o1=>some o1))))
def w9:Bb:=mC [XU,NJ] 147 Tryz.f147 (.s .n (.s .n (.j IT (.s .n (.l ⟨[1,36,37],[Bd 38],[[1]],[]⟩ [(1,IT),(0,⟨[],[ES 2],[],[]⟩)] .n)) .n))) [.s 96] [.k (.bool)] (fun x=>Uh x.1) Tryz.func147 (by kernel_rfl)
def B0 (a0:Ag):Option (Bool):=
 (Ba a0.AT (5:Int)).bind fun r1=>
 (gd ((!r1)==false) (Ba a0.Who (2:Int))).bind fun r2=>
 (some (if !r1 then true else !r2)).bind fun b3=>
 (gd (b3==false) (Ba a0.Self (2:Int))).bind fun r4=>
 (some (if b3 then true else !r4)).bind fun b5=>
 (gd (b5==false) (Ba a0.Tap (2:Int))).bind fun r6=>
 (some (if b5 then true else !r6)).bind fun b7=>
 (gd (b7==false) (Ba a0.Keys (131071:Int))).bind fun r8=>
 (some (if b7 then true else !r8)).bind fun b9=>
 (if b9 then
  some false
 else
  (Ba a0.Types (63:Int)).bind fun r11=>
  (gd ((!r11)==false) (Ba a0.abw (63:Int))).bind fun r12=>
  (some (if !r11 then true else !r12)).bind fun b13=>
  (some (if b13 then true else(Fn .i64 a0.Types a0.abw) != (0:Int))).bind fun b14=>
  (if b14 then
   some false
  else
   (Ba a0.adM (31:Int)).bind fun r16=>
   (gd ((!r16)==false) (Ba a0.aaZ (31:Int))).bind fun r17=>
   (some (if !r16 then true else !r17)).bind fun b18=>
   (some (if b18 then true else(Fn .i64 a0.adM a0.aaZ) != (0:Int))).bind fun b19=>
   (if b19 then
    some false
   else
    (gd ((a0.Sub != ([]:List UInt8))==true) (HJ a0.Sub)).bind fun r21=>
    (some (if(a0.Sub != ([]:List UInt8)) then !r21 else false)).bind fun b22=>
    (if b22 then
     some false
    else
     (Du a0.Power).bind fun r24=>
     (gd (r24==true) (Du a0.abv)).bind fun r25=>
     (some (if r24 then r25 else false)).bind fun b26=>
     (gd (b26==true) (Du a0.Value)).bind fun r27=>
     (some (if b26 then r27 else false)).bind fun b28=>
     some b28))))
def Dd:Bb:=mC [Mz,NJ,VY] 204 Tryz.f204 .n [.s 110] [.k (.bool)] (fun x=>B0 x.1) Tryz.func204 (by kernel_rfl)
def Cv (a0:Int):Option ((List UInt8)):=
 (some (if decide (a0<1) then true else decide (63<a0))).bind fun b1=>
 (if b1 then
  some ([]:List UInt8)
 else
  (FC a0).bind fun r3=>
  (QQ r3 Ln).bind fun r4=>
  some r4)
def ML:Bb:=mC [KK,kE] 278 Tryz.f278 .n [.k (.int .i64)] [.k (.str)] (fun x=>Cv x.1) Tryz.func278 (by kernel_rfl)
def Oi (apD:List (List UInt8)):Option ((List UInt8)):=
 (if((apD.length:Int)==0) then
  some Pi
 else
  (Gt apD Ln).bind fun r6=>
  some r6)
def E6 (r7:(List (Int))) (ajs:Int) (ahZ:List (List UInt8)):Option ((Int×(List (List UInt8)))⊕((List (List UInt8)))):=
 (if(decide (ajs<(r7.length:Int))) then
  (idx r7 ajs).bind fun e16=>
  (NK e16).bind fun r17=>
  (app 16 ahZ ([r17]:List (List UInt8))).bind fun l18=>
  some (.inl ((Aa (ajs+1)),l18))
 else
  some (.inr ahZ))
def G4 (a0:Int):Option ((List UInt8)):=
 (FX a0).bind fun r1=>
 (if !r1 then
  some ([]:List UInt8)
 else
  jn (fun(v:(List (List UInt8)))=>Oi v) (fun jJ4=>
  (FB a0).bind fun r7=>
  (iter (fun(v:Int×(List (List UInt8)))=>E6 r7 v.1 v.2) FU ((0:Int),([]:List (List UInt8)))).bind (fun o0=>jJ4 o0)))
def ck:Bb:=mC [TQ,RX,bY,Pp] 280 Tryz.f280 (.s .n (.s .n (.s .n (.j ⟨[],[(3, .c (.c (.e_ [3])))],[],[([3], .row 9)]⟩ (.s .n (.l ⟨[10,11],[(3, .c (.c (.e_ [3]))),Bd 12],[],[([3], .row 9)]⟩ [(1,⟨[],[(3, .c (.c (.e_ [3])))],[],[([3], .row 9)]⟩)] .n)) .n)))) [.k (.int .i64)] [.k (.str)] (fun x=>G4 x.1) Tryz.func280 (by kernel_rfl)
def FD (a0:A6 (Int)):Option ((List UInt8)):=
 (MB a0).bind fun r1=>
 (MI r1).bind fun r2=>
 some r2
def X8:Bb:=mC [akK,Xz] 291 Tryz.f291 .n [.s 59] [.k (.str)] (fun x=>FD x.1) Tryz.func291 (by kernel_rfl)
def D9 (apC:List (List UInt8)):Option ((List UInt8)):=
 (Gt apC Dq).bind fun r16=>
 (cat uC r16).bind fun s17=>
 (cat s17 uD).bind fun s18=>
 some s18
def Ea (ahZ:List (List UInt8)):Option ((List UInt8)):=
 jn (fun(v:(List (List UInt8)))=>D9 v) (fun ad9=>
 (if((ahZ.length:Int)==0) then
  ad9 ([ik]:List (List UInt8))
 else
  ad9 ahZ))
def Hh (a0:BX) (agC:List (List UInt8)):Option ((List UInt8)):=
 jn (fun(v:(List (List UInt8)))=>Ea v) (fun afB=>
 (if a0.adL != 0 then
  (Db a0.adL).bind fun r21=>
  (cat io r21).bind fun s22=>
  (app 16 agC ([s22]:List (List UInt8))).bind fun l23=>
  afB l23
 else
  afB agC))
def IG (a0:BX) (amB:List (List UInt8)):Option ((List UInt8)):=
 jn (fun(v:(List (List UInt8)))=>Hh a0 v) (fun aaR=>
 (if a0.ahh then
  (app 16 amB ([FA]:List (List UInt8))).bind fun l25=>
  aaR l25
 else
  aaR amB))
def EN (a0:BX) (aue:List (List UInt8)):Option ((List UInt8)):=
 jn (fun(v:(List (List UInt8)))=>IG a0 v) (fun jJ9=>
 (if a0.Tap then
  (app 16 aue ([TH]:List (List UInt8))).bind fun l27=>
  jJ9 l27
 else
  jJ9 aue))
def De (a0:BX):Option ((List UInt8)):=
 (Qp a0.ahB).bind fun r1=>
 (some (if !r1 then true else a0.ahB.X != 0)).bind fun b2=>
 (some (if b2 then true else decide (a0.adL<0))).bind fun b3=>
 (some (if b3 then true else decide (99<a0.adL))).bind fun b4=>
 (if b4 then
  some ([]:List UInt8)
 else
  jn (fun(v:(List (List UInt8)))=>EN a0 v) (fun jJ7=>
  (if(!(a0.ahB==(⟨0,0,(⟨0,0,0,0,0⟩:A5 (Int))⟩:Az))) then
   (MI a0.ahB).bind fun r29=>
   (app 16 ([]:List (List UInt8)) ([r29]:List (List UInt8))).bind fun l30=>
   jJ7 l30
  else
   jJ7 ([]:List (List UInt8)))))
def QI:Bb:=mC [VL,Xz,NF,Pp] 209 Tryz.f209 (.s .n (.s .n (.s .n (.j ⟨[1],[(3, .c (.c (.e_ [3])))],[[1]],[([3], .row 9)]⟩ .n (.j ⟨[1],[(3, .c (.c (.e_ [3])))],[[1]],[([3], .row 9)]⟩ .n (.j ⟨[1],[(3, .c (.c (.e_ [3])))],[[1]],[([3], .row 9)]⟩ .n (.j ⟨[],[(3, .c (.c (.e_ [3])))],[],[([3], .row 9)]⟩ .n (.j ⟨[],[(3, .c (.v (.k (.l_ 9))))],[],[]⟩ .n .n)))))))) [.s 113] [.k (.str)] (fun x=>De x.1) Tryz.func209 (by kernel_rfl)
def X9 (amu:Int) (amF:List (Int)):Option ((List (Int))×Int):=
 some (amF,amu)
def Bl (ahQ:Int) (abR:Int) (aa8:List (Int)):Option ((Int×Int×(List (Int)))⊕((Int×(List (Int))))):=
 (if decide (0<abR) then
  (HK ahQ (Aa (abR+1))).bind fun r17=>
  (idx aa8 r17.1).bind fun e18=>
  (idx aa8 r17.1).bind fun e19=>
  (idx aa8 abR).bind fun e20=>
  (idx aa8 abR).bind fun e21=>
  (idx aa8 abR).bind fun e22=>
  (idx aa8 abR).bind fun e24=>
  (some (aa8.set (abR).toNat e19)).bind fun l23=>
  (idx l23 r17.1).bind fun e25=>
  (idx l23 r17.1).bind fun e27=>
  (some (l23.set (r17.1).toNat e21)).bind fun l26=>
  some (.inl (r17.2,(Aa (abR - 1)),l26))
 else
  some (.inr (ahQ,aa8)))
def CP (a0:Int) (a1:List (Int)):Option ((List (Int))×Int):=
 (Ay a1).bind fun r1=>
 jn (fun(v:Int×(List (Int)))=>X9 v.1 v.2) (fun jJ4=>
 (iter (fun(v:Int×Int×(List (Int)))=>Bl v.1 v.2.1 v.2.2) FU (a0,(Aa ((r1.length:Int) - (1:Int))),r1)).bind (fun o0=>jJ4 (o0.1,o0.2)))
def PA:Bb:=mC [BH,kW] 23 Tryz.f23 (.s .n (.s (.r [] [] (.q 1 .co .n)) (.j ⟨[6],[(0, .c (.v (.k (.int .u64))))],[],[([0,0,10], .row 3)]⟩ (.s .n (.l ⟨[6],[(0, .c (.v (.k (.int .u64)))),Bd 7],[],[([0,0,10], .row 3)]⟩ [(1,⟨[6],[(0, .c (.v (.k (.int .u64))))],[],[([0,0,10], .row 3)]⟩)] (.s .n (.s (.s .n (.r [] [] (.t .n))) .n)))) .n))) [.k (.int .u64), .k (.l_ 3)] [.k (.l_ 3), .k (.int .u64)] (fun x=>CP x.1 x.2.1) Tryz.func23 (by kernel_rfl)
def dR (a0:Ai) (Th:Int) (J_:List (Al)) (r5:(List (Am))) (r6:(List (Int))) (r7:(List (Int))) (adS:List (AK)) (af0:List (Ax)) (akc:List (Bn)):Option (Ai):=
 (Ay a0.Extra).bind fun r17=>
 (k_ (Th=((J_.length:Nat):Int))).bind fun _=>
 some (⟨J_,r5,r6,r7,adS,af0,akc,a0.aaT,a0.abi,a0.Step,a0.adC,a0.Priority,a0.Passes,a0.ab2,a0.aaj,a0.adt,r17,a0.ahi,a0.ack⟩:Ai)
def dU (r14:(List (Bn))) (aaU:Int) (abG:List (Bn)):Option ((Int×(List (Bn)))⊕((List (Bn)))):=
 (if(decide (aaU<(r14.length:Int))) then
  (idx abG aaU).bind fun e26=>
  (idx abG aaU).bind fun e27=>
  (Ay e27.d_).bind fun r28=>
  (idx abG aaU).bind fun e29=>
  (idx abG aaU).bind fun e31=>
  (some (abG.set (aaU).toNat ({e31 with d_:=r28}))).bind fun l30=>
  (idx l30 aaU).bind fun e32=>
  (idx l30 aaU).bind fun e33=>
  (A8 e33.aap).bind fun r34=>
  (idx l30 aaU).bind fun e35=>
  (idx l30 aaU).bind fun e37=>
  (some (l30.set (aaU).toNat ({e37 with aap:=r34}))).bind fun l36=>
  some (.inl ((Aa (aaU+1)),l36))
 else
  some (.inr abG))
def dV (a0:Ai) (Th:Int) (J_:List (Al)) (r5:(List (Am))) (r6:(List (Int))) (r7:(List (Int))) (adS:List (AK)) (af0:List (Ax)):Option (Ai):=
 (BK a0.ad0).bind fun r14=>
 jn (fun(v:(List (Bn)))=>dR a0 Th J_ r5 r6 r7 adS af0 v) (fun aeT=>
 (iter (fun(v:Int×(List (Bn)))=>dU r14 v.1 v.2) FU ((0:Int),r14)).bind (fun o0=>aeT o0))
def dW (r11:(List (Ax))) (ad4:Int) (acf:List (Ax)):Option ((Int×(List (Ax)))⊕((List (Ax)))):=
 (if(decide (ad4<(r11.length:Int))) then
  (idx acf ad4).bind fun e46=>
  (idx acf ad4).bind fun e47=>
  (HL e47.aen).bind fun r48=>
  (idx acf ad4).bind fun e49=>
  (idx acf ad4).bind fun e51=>
  (some (acf.set (ad4).toNat ({e51 with aen:=r48}))).bind fun l50=>
  some (.inl ((Aa (ad4+1)),l50))
 else
  some (.inr acf))
def dX (a0:Ai) (Th:Int) (J_:List (Al)) (r5:(List (Am))) (r6:(List (Int))) (r7:(List (Int))) (adS:List (AK)):Option (Ai):=
 (Bi a0.abm).bind fun r11=>
 jn (fun(v:(List (Ax)))=>dV a0 Th J_ r5 r6 r7 adS v) (fun afB=>
 (iter (fun(v:Int×(List (Ax)))=>dW r11 v.1 v.2) FU ((0:Int),r11)).bind (fun o0=>afB o0))
def dY (r8:(List (AK))) (abx:Int) (acg:List (AK)):Option ((Int×(List (AK)))⊕((List (AK)))):=
 (if(decide (abx<(r8.length:Int))) then
  (idx acg abx).bind fun e60=>
  (idx acg abx).bind fun e61=>
  (HL e61.aen).bind fun r62=>
  (idx acg abx).bind fun e63=>
  (idx acg abx).bind fun e65=>
  (some (acg.set (abx).toNat ({e65 with aen:=r62}))).bind fun l64=>
  (idx l64 abx).bind fun e66=>
  (idx l64 abx).bind fun e67=>
  (By e67.ahG).bind fun r68=>
  (idx l64 abx).bind fun e69=>
  (idx l64 abx).bind fun e71=>
  (some (l64.set (abx).toNat ({e71 with ahG:=r68}))).bind fun l70=>
  some (.inl ((Aa (abx+1)),l70))
 else
  some (.inr acg))
def lc (a0:Ai) (Th:Int) (J_:List (Al)):Option (Ai):=
 (Bw a0.d_).bind fun r5=>
 (Ay a0.Td).bind fun r6=>
 (Ay a0.aet).bind fun r7=>
 (BI a0.Stack).bind fun r8=>
 jn (fun(v:(List (AK)))=>dX a0 Th J_ r5 r6 r7 v) (fun ad_=>
 (iter (fun(v:Int×(List (AK)))=>dY r8 v.1 v.2) FU ((0:Int),r8)).bind (fun o0=>ad_ o0))
def dZ (r1:(List (Al))) (acU:Int) (aa1:Int) (W_:List (Al)):Option ((Int×Int×(List (Al)))⊕((Int×(List (Al))))):=
 (if(decide (acU<(r1.length:Int))) then
  (idx W_ acU).bind fun e83=>
  (idx W_ acU).bind fun e84=>
  (k_ (aa1<=acU)).bind fun u85=>
  (Og e84).bind fun r86=>
  (idx W_ acU).bind fun e87=>
  (idx W_ acU).bind fun e88=>
  (k_ (acU=aa1)).bind fun u89=>
  (some (W_.set (acU).toNat (⟨r86.adL,r86.akI,r86.akJ,r86.abE,r86.air,r86.am9,r86.S_,r86.Hand,r86.acm⟩:Al))).bind fun l90=>
  some (.inl ((Aa (acU+1)),(aa1+1),l90))
 else
  some (.inr (aa1,W_)))
def Qt (a0:Ai):Option (Ai):=
 (Bv a0.g_).bind fun r1=>
 jn (fun(v:Int×(List (Al)))=>lc a0 v.1 v.2) (fun jJ4=>
 (iter (fun(v:Int×Int×(List (Al)))=>dZ r1 v.1 v.2.1 v.2.2) FU ((0:Int),(0:Int),r1)).bind (fun o0=>jJ4 (o0.1,o0.2)))
def PB:Bb:=mX [Fj,T9,Fk,BH,GQ,R3,Fm,EI,GU,Dt] 34 Tryz.f34 (.s .n (.s (.r [] [] (.q 2 .co (.g 3 (.dp 9) .n))) (.j ⟨[1,2],[],[[1],[2]],[([1000003,0,0,9], .deep 61)]⟩ (.s .n (.l ⟨[1,2,13],[Bd 14],[[1],[2]],[([1000003,0,0,9], .deep 61)]⟩ [(1,⟨[1,2],[],[[1],[2]],[([1000003,0,0,9], .deep 61)]⟩)] (.s .n (.s .n (.s (.s .n (.r [] [] (.t (.q 8 .co (.q 10 .au .n))))) .n))))) (.s (.r [] [] (.q 2 .co .n)) (.s (.r [] [] (.q 2 .co .n)) (.s (.r [] [] (.q 2 .co .n)) (.s (.r [] [] (.q 2 .co .n)) (.j ⟨[1,2],[],[[1],[0,0,30],[0,0,34],[0,0,38],[2],[1000003,0,0,9]],[([0,0,42], .row 126)]⟩ (.s .n (.l ⟨[1,2,46],[Bd 47],[[1],[0,0,30],[0,0,34],[0,0,38],[2],[1000003,0,0,9]],[([0,0,42], .row 126)]⟩ [(3,⟨[1,2],[],[[1],[0,0,30],[0,0,34],[0,0,38],[2],[1000003,0,0,9]],[([0,0,42], .row 126)]⟩)] (.s .n (.s .n (.s (.s .n (.s (.r [] [] (.t .n)) (.r [] [] (.t .n)))) .n))))) (.s (.r [] [] (.q 2 .co .n)) (.j ⟨[1,2],[],[[1],[0,0,30],[0,0,34],[0,0,38],[0,0,42],[2],[1000003,0,0,9]],[([0,0,77], .row 129)]⟩ (.s .n (.l ⟨[1,2,81],[Bd 82],[[1],[0,0,30],[0,0,34],[0,0,38],[0,0,42],[2],[1000003,0,0,9]],[([0,0,77], .row 129)]⟩ [(5,⟨[1,2],[],[[1],[0,0,30],[0,0,34],[0,0,38],[0,0,42],[2],[1000003,0,0,9]],[([0,0,77], .row 129)]⟩)] (.s .n (.s .n (.s (.s .n (.r [] [] (.t .n))) .n))))) (.s (.r [] [] (.q 2 .co .n)) (.j ⟨[1,2],[],[[1],[0,0,30],[0,0,34],[0,0,38],[0,0,42],[0,0,77],[2],[1000003,0,0,9]],[([0,0,100], .row 132)]⟩ (.s .n (.l ⟨[1,2,104],[Bd 105],[[1],[0,0,30],[0,0,34],[0,0,38],[0,0,42],[0,0,77],[2],[1000003,0,0,9]],[([0,0,100], .row 132)]⟩ [(7,⟨[1,2],[],[[1],[0,0,30],[0,0,34],[0,0,38],[0,0,42],[0,0,77],[2],[1000003,0,0,9]],[([0,0,100], .row 132)]⟩)] (.s .n (.s .n (.s (.s .n (.s (.r [] [] (.t .n)) (.r [] [] (.t .n)))) .n))))) (.s (.r [] [] (.q 2 .co .n)) .n))))))))))))) [[2,1,1,1,1,1,1,0,0,0,0,0,0,0,0,0,1,0,0]] [.s 36] [.s 36] (fun x=>Qt x.1) Tryz.func34 (by kernel_rfl)
def Ya (ayp:List (Int)) (ayo:List (Int)):Option ((List (Int))):=
 (app 8 ayo ayp).bind fun l6=>
 some l6
def V5 (ago:Int) (aud:List (Int)) (aua:List (Int)):Option ((Int×(List (Int))×(List (Int)))⊕(((List (Int))×(List (Int))))):=
 some (.inl ((Aa (ago+1)),aud,aua))
def V6 (ale:Int) (r7:(List (Int))) (ago:Int) (al3:List (Int)) (al2:List (Int)):Option ((Int×(List (Int))×(List (Int)))⊕(((List (Int))×(List (Int))))):=
 (if(decide (ago<(r7.length:Int))) then
  jn (fun(v:(List (Int))×(List (Int)))=>V5 ago v.1 v.2) (fun ahu=>
  (idx r7 ago).bind fun e22=>
  (Oh e22 ale).bind fun r23=>
  (if(r23==(-1:Int)) then
   (app 8 al3 ([e22]:List (Int))).bind fun l25=>
   ahu (l25,al2)
  else if r23==1 then
   (app 8 al2 ([e22]:List (Int))).bind fun l27=>
   ahu (al3,l27)
  else
   ahu (al3,al2)))
 else
  some (.inr (al3,al2)))
def Yb (a0:Ai) (ale:Int):Option ((List (Int))):=
 jn (fun(v:(List (Int))×(List (Int)))=>Ya v.1 v.2) (fun jJ5=>
 (NG a0).bind fun r7=>
 (iter (fun(v:Int×(List (Int))×(List (Int)))=>V6 ale r7 v.1 v.2.1 v.2.2) FU ((0:Int),([]:List (Int)),([]:List (Int)))).bind (fun o0=>jJ5 (o0.1,o0.2)))
def Ui (a0:Ai) (a1:Int):Option ((List (Int))):=
 jn (fun(v:Int)=>Yb a0 v) (fun H_=>
 (some (if decide (a1<0) then true else decide ((a0.g_.length:Int)<=a1))).bind fun b28=>
 (if b28 then
  H_ (-1:Int)
 else
  H_ a1))
def cl:Bb:=mC [Pq,Ua] 74 Tryz.f74 (.s .n (.j ⟨[2],[Bd 1],[[2]],[]⟩ .n (.s .n (.j ⟨[],[(5, .c (.c (.e_ [5]))),(6, .c (.c (.e_ [6])))],[],[([5], .row 3),([6], .row 3)]⟩ (.s .n (.l ⟨[1,19,20],[(5, .c (.c (.e_ [5]))),(6, .c (.c (.e_ [6]))),Bd 21],[],[([5], .row 3),([6], .row 3)]⟩ [(1,⟨[],[(5, .c (.c (.e_ [5]))),(6, .c (.c (.e_ [6])))],[],[([5], .row 3),([6], .row 3)]⟩)] (.s .n (.s .n (.j ⟨[1,19,20,21],[(5, .c (.c (.e_ [5]))),(6, .c (.c (.e_ [6])))],[],[([5], .row 3),([6], .row 3)]⟩ .n .n))))) .n)))) [.s 36, .k (.int .i64)] [.k (.l_ 3)] (fun x=>Ui x.1 x.2.1) Tryz.func74 (by kernel_rfl)
def cm:Option (Bool):=
 some true
def cn (a0:Cb) (a1:List (Int)) (ab8:Int):Option ((Int)⊕(Unit⊕Bool)):=
 (if(decide (ab8<(a1.length:Int))) then
  (idx a1 ab8).bind fun e7=>
  (some (if decide (e7<0) then true else decide ((a0.Options.length:Int)<=e7))).bind fun b8=>
  (gd (b8==false) (XA a1 e7)).bind fun r9=>
  (some (if b8 then true else r9 != ab8)).bind fun b10=>
  (if b10 then
   some (.inr (.inr false))
  else
   some (.inl (Aa (ab8+1))))
 else
  some (.inr (.inl ())))
def IH (a0:Cb) (a1:List (Int)):Option (Bool):=
 jn (fun(v:Unit)=>cm) (fun jJ1=>
 (iter (fun(v:Int)=>cn a0 a1 v) FU (0:Int)).bind (Sum.elim (fun o0=>jJ1 ()) (fun o1=>some o1)))
def d9:Bb:=mC [dN] 122 Tryz.f122 (.s .n (.j IT (.s .n (.l ⟨[1,2,7,8],[Bd 9],[[2]],[]⟩ [(1,IT),(0,⟨[],[ES 4],[],[]⟩)] .n)) .n)) [.s 54, .k (.l_ 3)] [.k (.bool)] (fun x=>IH x.1 x.2.1) Tryz.func122 (by kernel_rfl)
def iG (a0:List (Int)) (a1:Int):Option (Bool):=
 (Dv a0 a1).bind fun r1=>
 some r1
def ph:Bb:=mC [Fg] 174 Tryz.f174 .n [.k (.l_ 3), .k (.int .i64)] [.k (.bool)] (fun x=>iG x.1 x.2.1) Tryz.func174 (by kernel_rfl)
def JL (a0:List UInt8):Option (Bool):=
 (V2 a0).bind fun r1=>
 (gd (r1==true) (KH)).bind fun r2=>
 (gd (r1==true) (MG r2 a0)).bind fun r3=>
 (some (if r1 then decide (r3<0)else false)).bind fun b4=>
 (gd (b4==true) (H7)).bind fun r5=>
 (gd (b4==true) (MG r5 a0)).bind fun r6=>
 (some (if b4 then decide (r6<0)else false)).bind fun b7=>
 some b7
def PD:Bb:=mC [ce,VX,oK,Of] 160 Tryz.f160 .n [.k (.str)] [.k (.bool)] (fun x=>JL x.1) Tryz.func160 (by kernel_rfl)
def Dj (a0:Int):Option ((List UInt8)):=
 (some (if decide (a0<1) then true else decide (63<a0))).bind fun b1=>
 (if b1 then
  some ([]:List UInt8)
 else
  (H7).bind fun r3=>
  (ci r3 a0 Ln).bind fun r4=>
  some r4)
def Oj:Bb:=mC [Of,kY] 195 Tryz.f195 .n [.k (.int .i64)] [.k (.str)] (fun x=>Dj x.1) Tryz.func195 (by kernel_rfl)
def PE (ahS:List UInt8):Option ((List UInt8)):=
 (if(ahS==([]:List UInt8)) then
  some Pi
 else
  some ahS)
def Jr (afq:Int) (aeb:Int) (apo:List UInt8):Option ((Int×(List UInt8)×Int)⊕((List UInt8))):=
 some (.inl ((Aa (Int.tdiv afq (2:Int))),apo,(Aa (aeb+1))))
def NN (aeb:Int) (aeT:((List UInt8))->Option ((Int×(List UInt8)×Int)⊕((List UInt8)))) (apm:List UInt8):Option ((Int×(List UInt8)×Int)⊕((List UInt8))):=
 (Ug aeb).bind fun r20=>
 (cat apm r20).bind fun s21=>
 aeT s21
def Uj (afq:Int) (agw:List UInt8) (aeb:Int):Option ((Int×(List UInt8)×Int)⊕((List UInt8))):=
 (if decide (aeb<17) then
  jn (fun(v:(List UInt8))=>Jr afq aeb v) (fun aeT=>
  (if((Int.tmod afq (2:Int))==(1:Int)) then
   jn (fun(v:(List UInt8))=>NN aeb aeT v) (fun aeS=>
   (if(agw != ([]:List UInt8)) then
    (cat agw Ln).bind fun s23=>
    aeS s23
   else
    aeS agw))
  else
   aeT agw))
 else
  some (.inr agw))
def PF (a0:Int):Option ((List UInt8)):=
 (Pr a0).bind fun r1=>
 (if !r1 then
  some ([]:List UInt8)
 else
  jn (fun(v:(List UInt8))=>PE v) (fun jJ4=>
  (iter (fun(v:Int×(List UInt8)×Int)=>Uj v.1 v.2.1 v.2.2) FU (a0,([]:List UInt8),(0:Int))).bind (fun o0=>jJ4 o0)))
def sM:Bb:=mC [oL,cj] 197 Tryz.f197 (.s .n (.s .n (.s .n (.j ⟨[],[Kt 3],[],[]⟩ (.s .n (.l ⟨[],[Bd 0,Kt 3,Bd 4],[],[]⟩ [(1,⟨[],[Kt 3],[],[]⟩)] (.s .n (.s (.j ⟨[0,4],[Kt 3],[],[]⟩ (.s .n (.i (.j ⟨[0,4],[Kt 3],[],[]⟩ .n .n) .n)) .n) .n)))) .n)))) [.k (.int .i64)] [.k (.str)] (fun x=>PF x.1) Tryz.func197 (by kernel_rfl)
def D2 (a0:List UInt8) (a1:Ac):Option ((List UInt8)):=
 (if a1.Kind==0 then
  some ([]:List UInt8)
 else
  (iD).bind fun r2=>
  (idx r2 a1.Kind).bind fun e3=>
  (cat a0 e3).bind fun s4=>
  (Dw a1.N).bind fun r5=>
  (cat s4 r5).bind fun s6=>
  some s6)
def Yc:Bb:=mC [oQ,R4] 243 Tryz.f243 .n [.k (.str), .s 108] [.k (.str)] (fun x=>D2 x.1 x.2.1) Tryz.func243 (by kernel_rfl)
def XB (afU:List UInt8):Option ((List UInt8)):=
 (if(afU==([]:List UInt8)) then
  some ik
 else
  some afU)
def lf (acp:Int) (apn:List UInt8):Option (((List UInt8)×Int)⊕((List UInt8))):=
 some (.inl (apn,(Aa (acp+1))))
def G5 (a0:Az) (acp:Int) (alV:List UInt8) (al4:Int):Option (((List UInt8)×Int)⊕((List UInt8))):=
 (idx a0.Color.l acp).bind fun e25=>
 (idx a0.Color.l acp).bind fun e26=>
 (if decide (al4<e26) then
  (Zn Mx acp (Aa (acp+1))).bind fun s28=>
  (cat alV s28).bind fun s29=>
  some (.inl (s29,(Aa (al4+1))))
 else
  some (.inr alV))
def Js (a0:Az) (alW:List UInt8) (acp:Int):Option (((List UInt8)×Int)⊕((List UInt8))):=
 (if decide (acp<5) then
  jn (fun(v:(List UInt8))=>lf acp v) (fun aix=>
  (iter (fun(v:(List UInt8)×Int)=>G5 a0 acp v.1 v.2) FU (alW,(0:Int))).bind (fun o0=>aix o0))
 else
  some (.inr alW))
def PG (a0:Az) (ala:List UInt8):Option ((List UInt8)):=
 jn (fun(v:(List UInt8))=>XB v) (fun jJ8=>
 (iter (fun(v:(List UInt8)×Int)=>Js a0 v.1 v.2) FU (ala,(0:Int))).bind (fun o0=>jJ8 o0))
def PH (a0:Az) (ahS:List UInt8):Option ((List UInt8)):=
 jn (fun(v:(List UInt8))=>PG a0 v) (fun jJ6=>
 (if a0.Generic != 0 then
  (Dw a0.Generic).bind fun r31=>
  (cat ahS r31).bind fun s32=>
  jJ6 s32
 else
  jJ6 ahS))
def G6 (a0:Az) (alU:List UInt8) (al8:Int):Option (((List UInt8)×Int)⊕((List UInt8))):=
 (if decide (al8<a0.X) then
  (cat alU uB).bind fun s40=>
  some (.inl (s40,(Aa (al8+1))))
 else
  some (.inr alU))
def Uk (a0:Az):Option ((List UInt8)):=
 (VW a0).bind fun r1=>
 (if !r1 then
  some ([]:List UInt8)
 else
  jn (fun(v:(List UInt8))=>PH a0 v) (fun jJ4=>
  (iter (fun(v:(List UInt8)×Int)=>G6 a0 v.1 v.2) FU (([]:List UInt8),(0:Int))).bind (fun o0=>jJ4 o0)))
def sN:Bb:=mC [bI,R4] 271 Tryz.f271 (.s .n (.s .n (.s .n (.j ⟨[1],[Kt 3],[[1]],[]⟩ (.s .n (.l ⟨[1],[Kt 3,Bd 4],[[1]],[]⟩ [(1,⟨[1],[Kt 3],[[1]],[]⟩)] .n)) (.j ⟨[1],[Kt 3],[[1]],[]⟩ .n (.j ⟨[],[Kt 3],[],[]⟩ (.s .n (.l ⟨[1],[Kt 3,Bd 5],[[1]],[]⟩ [(3,⟨[],[Kt 3],[],[]⟩)] (.s .n (.j ⟨[1,5],[Kt 3],[[1]],[]⟩ (.s .n (.l ⟨[1,5],[Kt 3,Bd 6],[[1]],[]⟩ [(5,⟨[1,5],[Kt 3],[[1]],[]⟩)] .n)) .n)))) .n)))))) [.s 99] [.k (.str)] (fun x=>Uk x.1) Tryz.func271 (by kernel_rfl)
def cq (amt:Int) (aui:List (Int)):Option ((List (Int))×Int):=
 some (aui,amt)
def IX (ahP:Int) (adx:Int) (aeN:List (Int)):Option ((Int×Int×(List (Int)))⊕((Int×(List (Int))))):=
 (if decide (1<=adx) then
  (V3 ahP (Aa (adx+1))).bind fun r19=>
  (idx aeN adx).bind fun e20=>
  (idx aeN adx).bind fun e21=>
  (idx aeN r19.1).bind fun e22=>
  (idx aeN r19.1).bind fun e23=>
  (idx aeN adx).bind fun e24=>
  (idx aeN adx).bind fun e26=>
  (some (aeN.set (adx).toNat e23)).bind fun l25=>
  (idx l25 r19.1).bind fun e27=>
  (idx l25 r19.1).bind fun e29=>
  (some (l25.set (r19.1).toNat e21)).bind fun l28=>
  some (.inl (r19.2,(Aa (adx - 1)),l28))
 else
  some (.inr (ahP,aeN)))
def Lz (a0:Int) (a1:List (Int)):Option ((List (Int))×Int):=
 (k_ (0<=(a1.length:Int)/\(a1.length:Int)<=(a1.length:Int)/\(a1.length:Int)*8<=140737488355328/\(a1.length:Int)<=maxLen)).bind fun u2=>
 (some (List.replicate ((a1.length:Int)).toNat (0:Int))).bind fun l1=>
 (k_ (a1.length=l1.length)).bind fun u3=>
 jn (fun(v:Int×(List (Int)))=>cq v.1 v.2) (fun jJ6=>
 (iter (fun(v:Int×Int×(List (Int)))=>IX v.1 v.2.1 v.2.2) FU (a0,(Aa ((a1.length:Int) - (1:Int))),a1)).bind (fun o0=>jJ6 (o0.1,o0.2)))
def ec:Bb:=mC [pg] 27 Tryz.f27 (.s .n (.s .n (.s (.r [] [] (.q 2 .cp .n)) (.j ⟨[6],[(0, .c (.v (.k (.int .u64))))],[],[([13], .row 3)]⟩ (.s .n (.l ⟨[6],[(0, .c (.v (.k (.int .u64)))),Bd 7],[],[([13], .row 3)]⟩ [(1,⟨[6],[(0, .c (.v (.k (.int .u64))))],[],[([13], .row 3)]⟩)] .n)) .n)))) [.k (.int .u64), .k (.l_ 3)] [.k (.l_ 3), .k (.int .u64)] (fun x=>Lz x.1 x.2.1) Tryz.func27 (by kernel_rfl)
def ed:Option (Bool):=
 some true
def QX (a0:Ai) (aq6:Int):Option ((Int)⊕(Unit)):=
 (if(decide (aq6<(a0.ad0.length:Int))) then
  none
 else
  some (.inr ()))
def NO (a0:Ai):Option (Bool):=
 jn (fun(v:Unit)=>ed) (fun ad_=>
 (iter (fun(v:Int)=>QX a0 v) FU (0:Int)).bind (fun o0=>ad_ ()))
def QY (a0:Ai) (aq8:Int):Option ((Int)⊕(Unit)):=
 (if(decide (aq8<(a0.abm.length:Int))) then
  none
 else
  some (.inr ()))
def NP (a0:Ai):Option (Bool):=
 jn (fun(v:Unit)=>NO a0) (fun jJ9=>
 (iter (fun(v:Int)=>QY a0 v) FU (0:Int)).bind (fun o0=>jJ9 ()))
def QZ (a0:Ai) (aq_:Int):Option ((Int)⊕(Unit)):=
 (if(decide (aq_<(a0.Stack.length:Int))) then
  none
 else
  some (.inr ()))
def NQ (a0:Ai):Option (Bool):=
 jn (fun(v:Unit)=>NP a0) (fun jJ8=>
 (iter (fun(v:Int)=>QZ a0 v) FU (0:Int)).bind (fun o0=>jJ8 ()))
def LW (a0:Ai) (a1:Ai) (ajl:Int):Option ((Int)⊕(Unit⊕Bool)):=
 (if(decide (ajl<(a0.d_.length:Int))) then
  (idx a0.d_ ajl).bind fun e34=>
  (idx a1.d_ ajl).bind fun e35=>
  (if !(e34==e35) then
   some (.inr (.inr false))
  else
   some (.inl (Aa (ajl+1))))
 else
  some (.inr (.inl ())))
def NR (a0:Ai) (a1:Ai):Option (Bool):=
 jn (fun(v:Unit)=>NQ a0) (fun jJ7=>
 (iter (fun(v:Int)=>LW a0 a1 v) FU (0:Int)).bind (Sum.elim (fun o0=>jJ7 ()) (fun o1=>some o1)))
def LX (a0:Ai) (a1:Ai) (ajn:Int):Option ((Int)⊕(Unit⊕Bool)):=
 (if(decide (ajn<(a0.g_.length:Int))) then
  (idx a0.g_ ajn).bind fun e42=>
  (idx a1.g_ ajn).bind fun e43=>
  (GZ e42 e43).bind fun r44=>
  (if !r44 then
   some (.inr (.inr false))
  else
   some (.inl (Aa (ajn+1))))
 else
  some (.inr (.inl ())))
def Qu (a0:Ai) (a1:Ai):Option (Bool):=
 (some (if((a0.g_.length:Int) != (a1.g_.length:Int)) then true else(a0.d_.length:Int) != (a1.d_.length:Int))).bind fun b1=>
 (some (if b1 then true else(a0.Stack.length:Int) != (a1.Stack.length:Int))).bind fun b2=>
 (some (if b2 then true else(a0.abm.length:Int) != (a1.abm.length:Int))).bind fun b3=>
 (some (if b3 then true else(a0.ad0.length:Int) != (a1.ad0.length:Int))).bind fun b4=>
 (if b4 then
  some false
 else
  jn (fun(v:Unit)=>NR a0 a1) (fun jJ6=>
  (iter (fun(v:Int)=>LX a0 a1 v) FU (0:Int)).bind (Sum.elim (fun o0=>jJ6 ()) (fun o1=>some o1))))
def pi:Bb:=mC [V4] 29 Tryz.f29 (.s .n (.s .n (.j ⟨[2,3],[],[[2],[3]],[]⟩ (.s .n (.l ⟨[2,3],[Bd 5],[[2],[3]],[]⟩ [(1,⟨[2,3],[],[[2],[3]],[]⟩),(0,⟨[],[ES 4],[],[]⟩)] .n)) (.j ⟨[2,3],[],[[2],[3]],[]⟩ (.s .n (.l ⟨[2,3],[Bd 6],[[2],[3]],[]⟩ [(3,⟨[2,3],[],[[2],[3]],[]⟩),(0,⟨[],[ES 4],[],[]⟩)] .n)) (.j ⟨[2,3],[],[[2],[3]],[]⟩ (.s .n (.l ⟨[2,3],[Bd 7],[[2],[3]],[]⟩ [(5,⟨[2,3],[],[[2],[3]],[]⟩)] (.s .n (.s .x .n)))) (.j ⟨[2,3],[],[[2],[3]],[]⟩ (.s .n (.l ⟨[2,3],[Bd 8],[[2],[3]],[]⟩ [(7,⟨[2,3],[],[[2],[3]],[]⟩)] (.s .n (.s .x .n)))) (.j IT (.s .n (.l ⟨[2,3],[Bd 9],[[2],[3]],[]⟩ [(9,IT)] (.s .n (.s .x .n)))) .n))))))) [.s 36, .s 36] [.k (.bool)] (fun x=>Qu x.1 x.2.1) Tryz.func29 (by kernel_rfl)
end Go.PL
