/- Functions of the program, as partial functions in Lean, with proofs. -/
import Derived.Test.YteginlijmbcopaaGreatDoorPlBkB
import Derived.Test.YteginlijmbcopaaGreatDoorPlBkF0
import Derived.Test.YteginlijmbcopaaGreatDoorPlBkF1
import Derived.Test.YteginlijmbcopaaGreatDoorPlBkF2
namespace Go.PL
open Go Go.RowKit Go.Proofs
set_option maxRecDepth 100000
set_option linter.all false
set_option maxHeartbeats 4000000
attribute [local irreducible] Ad Cx Cr
def QS:Option (Bool):=
 some true
def IJ (a0:Nz) (aeo:Int):Option ((Int)⊕(Unit⊕Bool)):=
 (if(decide (aeo<(a0.af9.length:Int))) then
  (idx a0.af9 aeo).bind fun e14=>
  (HN e14).bind fun r15=>
  (gd (((!r15)==false)&&((decide (0<aeo))==true)) (idx a0.af9 (Ac (aeo - 1)))).bind fun e16=>
  (some (if decide (0<aeo) then !(Op.bytesLess e16 e14)else false)).bind fun b17=>
  (some (if !r15 then true else b17)).bind fun b18=>
  (if b18 then
   some (.inr (.inr false))
  else
   some (.inl (Ac (aeo+1))))
 else
  some (.inr (.inl ())))
def Sr (a0:Nz):Option (Bool):=
 (some (if decide (a0.aiv<0) then true else decide (3<a0.aiv))).bind fun b1=>
 (some (if b1 then true else decide (a0.Types<1))).bind fun b2=>
 (some (if b2 then true else decide (63<a0.Types))).bind fun b3=>
 (gd (b3==false) (Ic a0.Types)).bind fun r4=>
 (some (if b3 then true else !r4)).bind fun b5=>
 (some (if b5 then true else decide (4<(a0.af9.length:Int)))).bind fun b6=>
 (if b6 then
  some false
 else
  jn (fun(v:Unit)=>QS) (fun jJ8=>
  (iter (fun(v:Int)=>IJ a0 v) FU (0:Int)).bind (Sum.elim (fun o0=>jJ8 ()) (fun o1=>some o1))))
def sW:Cj:=mC [VQ,Ng] 147 Tryz.f147 (.s .n (.s .n (.j M5 (.s .n (.l ⟨[1,36,37],[BS 38],[[1]],[]⟩ [(1,M5),(0,⟨[],[JL 2],[],[]⟩)] .n)) .n))) [.s 96] [.k (.bool)] (fun x=>Sr x.1) Tryz.func147 (by kernel_rfl)
def Ct (a0:Aq):Option (Bool):=
 (A9 a0.B_ (5:Int)).bind fun r1=>
 (gd ((!r1)==false) (A9 a0.Who (2:Int))).bind fun r2=>
 (some (if !r1 then true else !r2)).bind fun b3=>
 (gd (b3==false) (A9 a0.Self (2:Int))).bind fun r4=>
 (some (if b3 then true else !r4)).bind fun b5=>
 (gd (b5==false) (A9 a0.Tap (2:Int))).bind fun r6=>
 (some (if b5 then true else !r6)).bind fun b7=>
 (gd (b7==false) (A9 a0.Keys (131071:Int))).bind fun r8=>
 (some (if b7 then true else !r8)).bind fun b9=>
 (if b9 then
  some false
 else
  (A9 a0.Types (63:Int)).bind fun r11=>
  (gd ((!r11)==false) (A9 a0.acT (63:Int))).bind fun r12=>
  (some (if !r11 then true else !r12)).bind fun b13=>
  (some (if b13 then true else(JS .i64 a0.Types a0.acT) != (0:Int))).bind fun b14=>
  (if b14 then
   some false
  else
   (A9 a0.ae5 (31:Int)).bind fun r16=>
   (gd ((!r16)==false) (A9 a0.ab3 (31:Int))).bind fun r17=>
   (some (if !r16 then true else !r17)).bind fun b18=>
   (some (if b18 then true else(JS .i64 a0.ae5 a0.ab3) != (0:Int))).bind fun b19=>
   (if b19 then
    some false
   else
    (gd ((a0.Sub != ([]:List UInt8))==true) (HN a0.Sub)).bind fun r21=>
    (some (if(a0.Sub != ([]:List UInt8)) then !r21 else false)).bind fun b22=>
    (if b22 then
     some false
    else
     (DB a0.Power).bind fun r24=>
     (gd (r24==true) (DB a0.acS)).bind fun r25=>
     (some (if r24 then r25 else false)).bind fun b26=>
     (gd (b26==true) (DB a0.Value)).bind fun r27=>
     (some (if b26 then r27 else false)).bind fun b28=>
     some b28))))
def Di:Cj:=mC [Mq,Ng,Ui] 204 Tryz.f204 .n [.s 110] [.k (.bool)] (fun x=>Ct x.1) Tryz.func204 (by kernel_rfl)
def CC (a0:Int):Option ((List UInt8)):=
 (some (if decide (a0<1) then true else decide (63<a0))).bind fun b1=>
 (if b1 then
  some ([]:List UInt8)
 else
  (FL a0).bind fun r3=>
  (PR r3 WD).bind fun r4=>
  some r4)
def Mz:Cj:=mC [KF,gw] 278 Tryz.f278 .n [.k (.int .i64)] [.k (.str)] (fun x=>CC x.1) Tryz.func278 (by kernel_rfl)
def NH (aop:List (List UInt8)):Option ((List UInt8)):=
 (if((aop.length:Int)==0) then
  some YI
 else
  (GG aop WD).bind fun r6=>
  some r6)
def Fi (r7:(List (Int))) (aiD:Int) (ag2:List (List UInt8)):Option ((Int×(List (List UInt8)))⊕((List (List UInt8)))):=
 (if(decide (aiD<(r7.length:Int))) then
  (idx r7 aiD).bind fun e16=>
  (Nh e16).bind fun r17=>
  (app 16 ag2 ([r17]:List (List UInt8))).bind fun l18=>
  some (.inl ((Ac (aiD+1)),l18))
 else
  some (.inr ag2))
def G9 (a0:Int):Option ((List UInt8)):=
 (F8 a0).bind fun r1=>
 (if !r1 then
  some ([]:List UInt8)
 else
  jn (fun(v:(List (List UInt8)))=>NH v) (fun jJ4=>
  (FK a0).bind fun r7=>
  (iter (fun(v:Int×(List (List UInt8)))=>Fi r7 v.1 v.2) FU ((0:Int),([]:List (List UInt8)))).bind (fun o0=>jJ4 o0)))
def Zd:Cj:=mC [R7,QL,Y8,OH] 280 Tryz.f280 (.s .n (.s .n (.s .n (.j ⟨[],[(3, .c (.c (.j_ [3])))],[],[([3], .row 9)]⟩ (.s .n (.l ⟨[10,11],[(3, .c (.c (.j_ [3]))),BS 12],[],[([3], .row 9)]⟩ [(1,⟨[],[(3, .c (.c (.j_ [3])))],[],[([3], .row 9)]⟩)] .n)) .n)))) [.k (.int .i64)] [.k (.str)] (fun x=>G9 x.1) Tryz.func280 (by kernel_rfl)
def FM (a0:A6 (Int)):Option ((List UInt8)):=
 (Ms a0).bind fun r1=>
 (My r1).bind fun r2=>
 some r2
def V3:Cj:=mC [aj2,Vz] 291 Tryz.f291 .n [.s 59] [.k (.str)] (fun x=>FM x.1) Tryz.func291 (by kernel_rfl)
def Ej (aoo:List (List UInt8)):Option ((List UInt8)):=
 (GG aoo Fe).bind fun r16=>
 (cat qv r16).bind fun s17=>
 (cat s17 qw).bind fun s18=>
 some s18
def Ek (ag2:List (List UInt8)):Option ((List UInt8)):=
 jn (fun(v:(List (List UInt8)))=>Ej v) (fun ahF=>
 (if((ag2.length:Int)==0) then
  ahF ([dP]:List (List UInt8))
 else
  ahF ag2))
def Ho (a0:CB) (afq:List (List UInt8)):Option ((List UInt8)):=
 jn (fun(v:(List (List UInt8)))=>Ek v) (fun aex=>
 (if a0.adC != 0 then
  (Dg a0.adC).bind fun r21=>
  (cat dQ r21).bind fun s22=>
  (app 16 afq ([s22]:List (List UInt8))).bind fun l23=>
  aex l23
 else
  aex afq))
def IK (a0:CB) (alI:List (List UInt8)):Option ((List UInt8)):=
 jn (fun(v:(List (List UInt8)))=>Ho a0 v) (fun aa9=>
 (if a0.af_ then
  (app 16 alI ([LJ]:List (List UInt8))).bind fun l25=>
  aa9 l25
 else
  aa9 alI))
def EU (a0:CB) (asO:List (List UInt8)):Option ((List UInt8)):=
 jn (fun(v:(List (List UInt8)))=>IK a0 v) (fun jJ9=>
 (if a0.Tap then
  (app 16 asO ([fX]:List (List UInt8))).bind fun l27=>
  jJ9 l27
 else
  jJ9 asO))
def Dj (a0:CB):Option ((List UInt8)):=
 (Pr a0.ah_).bind fun r1=>
 (some (if !r1 then true else a0.ah_.X != 0)).bind fun b2=>
 (some (if b2 then true else decide (a0.adC<0))).bind fun b3=>
 (some (if b3 then true else decide (99<a0.adC))).bind fun b4=>
 (if b4 then
  some ([]:List UInt8)
 else
  jn (fun(v:(List (List UInt8)))=>EU a0 v) (fun jJ7=>
  (if(!(a0.ah_==(⟨0,0,(⟨0,0,0,0,0⟩:A5 (Int))⟩:AG))) then
   (My a0.ah_).bind fun r29=>
   (app 16 ([]:List (List UInt8)) ([r29]:List (List UInt8))).bind fun l30=>
   jJ7 l30
  else
   jJ7 ([]:List (List UInt8)))))
def PG:Cj:=mC [T6,Vz,Na,OH] 209 Tryz.f209 (.s .n (.s .n (.s .n (.j ⟨[1],[(3, .c (.c (.j_ [3])))],[[1]],[([3], .row 9)]⟩ .n (.j ⟨[1],[(3, .c (.c (.j_ [3])))],[[1]],[([3], .row 9)]⟩ .n (.j ⟨[1],[(3, .c (.c (.j_ [3])))],[[1]],[([3], .row 9)]⟩ .n (.j ⟨[],[(3, .c (.c (.j_ [3])))],[],[([3], .row 9)]⟩ .n (.j ⟨[],[(3, .c (.v (.k (.t_ 9))))],[],[]⟩ .n .n)))))))) [.s 113] [.k (.str)] (fun x=>Dj x.1) Tryz.func209 (by kernel_rfl)
def V4 (alE:Int) (alN:List (Int)):Option ((List (Int))×Int):=
 some (alN,alE)
def BM (agX:Int) (abC:Int) (aaY:List (Int)):Option ((Int×Int×(List (Int)))⊕((Int×(List (Int))))):=
 (if decide (0<abC) then
  (Nk agX (Ac (abC+1))).bind fun r17=>
  (idx aaY r17.1).bind fun e18=>
  (idx aaY r17.1).bind fun e19=>
  (idx aaY abC).bind fun e20=>
  (idx aaY abC).bind fun e21=>
  (idx aaY abC).bind fun e22=>
  (idx aaY abC).bind fun e24=>
  (some (aaY.set (abC).toNat e19)).bind fun l23=>
  (idx l23 r17.1).bind fun e25=>
  (idx l23 r17.1).bind fun e27=>
  (some (l23.set (r17.1).toNat e21)).bind fun l26=>
  some (.inl (r17.2,(Ac (abC - 1)),l26))
 else
  some (.inr (agX,aaY)))
def DT (a0:Int) (a1:List (Int)):Option ((List (Int))×Int):=
 (Ap a1).bind fun r1=>
 jn (fun(v:Int×(List (Int)))=>V4 v.1 v.2) (fun jJ4=>
 (iter (fun(v:Int×Int×(List (Int)))=>BM v.1 v.2.1 v.2.2) FU (a0,(Ac ((r1.length:Int) - (1:Int))),r1)).bind (fun o0=>jJ4 (o0.1,o0.2)))
def OO:Cj:=mC [BI,gO] 23 Tryz.f23 (.s .n (.s (.r [] [] (.q 1 .co .n)) (.j ⟨[6],[(0, .c (.v (.k (.int .u64))))],[],[([0,0,10], .row 3)]⟩ (.s .n (.l ⟨[6],[(0, .c (.v (.k (.int .u64)))),BS 7],[],[([0,0,10], .row 3)]⟩ [(1,⟨[6],[(0, .c (.v (.k (.int .u64))))],[],[([0,0,10], .row 3)]⟩)] (.s .n (.s (.s .n (.r [] [] (.t .n))) .n)))) .n))) [.k (.int .u64), .k (.t_ 3)] [.k (.t_ 3), .k (.int .u64)] (fun x=>DT x.1 x.2.1) Tryz.func23 (by kernel_rfl)
def aO (a0:Aa) (Th:Int) (N_:List (Ar)) (r5:(List (Ag))) (r6:(List (Int))) (r7:(List (Int))) (ade:List (A7)) (aeW:List (AM)) (ajq:List (Cv)):Option (Aa):=
 (Ap a0.Extra).bind fun r17=>
 (n_ (Th=((N_.length:Nat):Int))).bind fun _=>
 some (⟨N_,r5,r6,r7,ade,aeW,ajq,a0.aaf,a0.aaj,a0.Step,a0.abI,a0.Priority,a0.Passes,a0.g_,a0.l_,a0.ab2,r17,a0.ac9,a0.aaK⟩:Aa)
def aP (r14:(List (Cv))) (aaL:Int) (abp:List (Cv)):Option ((Int×(List (Cv)))⊕((List (Cv)))):=
 (if(decide (aaL<(r14.length:Int))) then
  (idx abp aaL).bind fun e26=>
  (idx abp aaL).bind fun e27=>
  (Ap e27.b_).bind fun r28=>
  (idx abp aaL).bind fun e29=>
  (idx abp aaL).bind fun e31=>
  (some (abp.set (aaL).toNat ({e31 with b_:=r28}))).bind fun l30=>
  (idx l30 aaL).bind fun e32=>
  (idx l30 aaL).bind fun e33=>
  (A1 e33.abn).bind fun r34=>
  (idx l30 aaL).bind fun e35=>
  (idx l30 aaL).bind fun e37=>
  (some (l30.set (aaL).toNat ({e37 with abn:=r34}))).bind fun l36=>
  some (.inl ((Ac (aaL+1)),l36))
 else
  some (.inr abp))
def aQ (a0:Aa) (Th:Int) (N_:List (Ar)) (r5:(List (Ag))) (r6:(List (Int))) (r7:(List (Int))) (ade:List (A7)) (aeW:List (AM)):Option (Aa):=
 (BL a0.ack).bind fun r14=>
 jn (fun(v:(List (Cv)))=>aO a0 Th N_ r5 r6 r7 ade aeW v) (fun aiJ=>
 (iter (fun(v:Int×(List (Cv)))=>aP r14 v.1 v.2) FU ((0:Int),r14)).bind (fun o0=>aiJ o0))
def aR (r11:(List (AM))) (ado:Int) (abX:List (AM)):Option ((Int×(List (AM)))⊕((List (AM)))):=
 (if(decide (ado<(r11.length:Int))) then
  (idx abX ado).bind fun e46=>
  (idx abX ado).bind fun e47=>
  (HO e47.adD).bind fun r48=>
  (idx abX ado).bind fun e49=>
  (idx abX ado).bind fun e51=>
  (some (abX.set (ado).toNat ({e51 with adD:=r48}))).bind fun l50=>
  some (.inl ((Ac (ado+1)),l50))
 else
  some (.inr abX))
def aS (a0:Aa) (Th:Int) (N_:List (Ar)) (r5:(List (Ag))) (r6:(List (Int))) (r7:(List (Int))) (ade:List (A7)):Option (Aa):=
 (Bh a0.aar).bind fun r11=>
 jn (fun(v:(List (AM)))=>aQ a0 Th N_ r5 r6 r7 ade v) (fun aex=>
 (iter (fun(v:Int×(List (AM)))=>aR r11 v.1 v.2) FU ((0:Int),r11)).bind (fun o0=>aex o0))
def aT (r8:(List (A7))) (abk:Int) (abY:List (A7)):Option ((Int×(List (A7)))⊕((List (A7)))):=
 (if(decide (abk<(r8.length:Int))) then
  (idx abY abk).bind fun e60=>
  (idx abY abk).bind fun e61=>
  (HO e61.adD).bind fun r62=>
  (idx abY abk).bind fun e63=>
  (idx abY abk).bind fun e65=>
  (some (abY.set (abk).toNat ({e65 with adD:=r62}))).bind fun l64=>
  (idx l64 abk).bind fun e66=>
  (idx l64 abk).bind fun e67=>
  (Bv e67.agM).bind fun r68=>
  (idx l64 abk).bind fun e69=>
  (idx l64 abk).bind fun e71=>
  (some (l64.set (abk).toNat ({e71 with agM:=r68}))).bind fun l70=>
  some (.inl ((Ac (abk+1)),l70))
 else
  some (.inr abY))
def Nl (a0:Aa) (Th:Int) (N_:List (Ar)):Option (Aa):=
 (A0 a0.b_).bind fun r5=>
 (Ap a0.AT).bind fun r6=>
 (Ap a0.acv).bind fun r7=>
 (BJ a0.Stack).bind fun r8=>
 jn (fun(v:(List (A7)))=>aS a0 Th N_ r5 r6 r7 v) (fun ahc=>
 (iter (fun(v:Int×(List (A7)))=>aT r8 v.1 v.2) FU ((0:Int),r8)).bind (fun o0=>ahc o0))
def Ea (r1:(List (Ar))) (acw:Int) (aaS:Int) (V_:List (Ar)):Option ((Int×Int×(List (Ar)))⊕((Int×(List (Ar))))):=
 (if(decide (acw<(r1.length:Int))) then
  (idx V_ acw).bind fun e83=>
  (idx V_ acw).bind fun e84=>
  (n_ (aaS<=acw)).bind fun u85=>
  (FV e84).bind fun r86=>
  (idx V_ acw).bind fun e87=>
  (idx V_ acw).bind fun e88=>
  (n_ (acw=aaS)).bind fun u89=>
  (some (V_.set (acw).toNat (⟨r86.adC,r86.aj0,r86.aj1,r86.acj,r86.ai8,r86.anC,r86.q_,r86.Hand,r86.abx⟩:Ar))).bind fun l90=>
  some (.inl ((Ac (acw+1)),(aaS+1),l90))
 else
  some (.inr (aaS,V_)))
def Eb (a0:Aa):Option (Aa):=
 (AZ a0.bk).bind fun r1=>
 jn (fun(v:Int×(List (Ar)))=>Nl a0 v.1 v.2) (fun jJ4=>
 (iter (fun(v:Int×Int×(List (Ar)))=>Ea r1 v.1 v.2.1 v.2.2) FU ((0:Int),(0:Int),r1)).bind (fun o0=>jJ4 (o0.1,o0.2)))
def Lt:Cj:=mX [Fw,Sm,Fz,BI,GY,QR,FB,EP,G5,Dz] 34 Tryz.f34 (.s .n (.s (.r [] [] (.q 2 .co (.g 3 (.dp 9) .n))) (.j ⟨[1,2],[],[[1],[2]],[([1000003,0,0,9], .deep 61)]⟩ (.s .n (.l ⟨[1,2,13],[BS 14],[[1],[2]],[([1000003,0,0,9], .deep 61)]⟩ [(1,⟨[1,2],[],[[1],[2]],[([1000003,0,0,9], .deep 61)]⟩)] (.s .n (.s .n (.s (.s .n (.r [] [] (.t (.q 8 .co (.q 10 .au .n))))) .n))))) (.s (.r [] [] (.q 2 .co .n)) (.s (.r [] [] (.q 2 .co .n)) (.s (.r [] [] (.q 2 .co .n)) (.s (.r [] [] (.q 2 .co .n)) (.j ⟨[1,2],[],[[1],[0,0,30],[0,0,34],[0,0,38],[2],[1000003,0,0,9]],[([0,0,42], .row 126)]⟩ (.s .n (.l ⟨[1,2,46],[BS 47],[[1],[0,0,30],[0,0,34],[0,0,38],[2],[1000003,0,0,9]],[([0,0,42], .row 126)]⟩ [(3,⟨[1,2],[],[[1],[0,0,30],[0,0,34],[0,0,38],[2],[1000003,0,0,9]],[([0,0,42], .row 126)]⟩)] (.s .n (.s .n (.s (.s .n (.s (.r [] [] (.t .n)) (.r [] [] (.t .n)))) .n))))) (.s (.r [] [] (.q 2 .co .n)) (.j ⟨[1,2],[],[[1],[0,0,30],[0,0,34],[0,0,38],[0,0,42],[2],[1000003,0,0,9]],[([0,0,77], .row 129)]⟩ (.s .n (.l ⟨[1,2,81],[BS 82],[[1],[0,0,30],[0,0,34],[0,0,38],[0,0,42],[2],[1000003,0,0,9]],[([0,0,77], .row 129)]⟩ [(5,⟨[1,2],[],[[1],[0,0,30],[0,0,34],[0,0,38],[0,0,42],[2],[1000003,0,0,9]],[([0,0,77], .row 129)]⟩)] (.s .n (.s .n (.s (.s .n (.r [] [] (.t .n))) .n))))) (.s (.r [] [] (.q 2 .co .n)) (.j ⟨[1,2],[],[[1],[0,0,30],[0,0,34],[0,0,38],[0,0,42],[0,0,77],[2],[1000003,0,0,9]],[([0,0,100], .row 132)]⟩ (.s .n (.l ⟨[1,2,104],[BS 105],[[1],[0,0,30],[0,0,34],[0,0,38],[0,0,42],[0,0,77],[2],[1000003,0,0,9]],[([0,0,100], .row 132)]⟩ [(7,⟨[1,2],[],[[1],[0,0,30],[0,0,34],[0,0,38],[0,0,42],[0,0,77],[2],[1000003,0,0,9]],[([0,0,100], .row 132)]⟩)] (.s .n (.s .n (.s (.s .n (.s (.r [] [] (.t .n)) (.r [] [] (.t .n)))) .n))))) (.s (.r [] [] (.q 2 .co .n)) .n))))))))))))) [[2,1,1,1,1,1,1,0,0,0,0,0,0,0,0,0,1,0,0]] [.s 36] [.s 36] (fun x=>Eb x.1) Tryz.func34 (by kernel_rfl)
def V5 (awJ:List (Int)) (awI:List (Int)):Option ((List (Int))):=
 (app 8 awI awJ).bind fun l6=>
 some l6
def Uj (afd:Int) (asN:List (Int)) (asJ:List (Int)):Option ((Int×(List (Int))×(List (Int)))⊕(((List (Int))×(List (Int))))):=
 some (.inl ((Ac (afd+1)),asN,asJ))
def Uk (akn:Int) (r7:(List (Int))) (afd:Int) (ak9:List (Int)) (ak8:List (Int)):Option ((Int×(List (Int))×(List (Int)))⊕(((List (Int))×(List (Int))))):=
 (if(decide (afd<(r7.length:Int))) then
  jn (fun(v:(List (Int))×(List (Int)))=>Uj afd v.1 v.2) (fun ahE=>
  (idx r7 afd).bind fun e22=>
  (NG e22 akn).bind fun r23=>
  (if(r23==(-1:Int)) then
   (app 8 ak9 ([e22]:List (Int))).bind fun l25=>
   ahE (l25,ak8)
  else if r23==1 then
   (app 8 ak8 ([e22]:List (Int))).bind fun l27=>
   ahE (ak9,l27)
  else
   ahE (ak9,ak8)))
 else
  some (.inr (ak9,ak8)))
def V6 (a0:Aa) (akn:Int):Option ((List (Int))):=
 jn (fun(v:(List (Int))×(List (Int)))=>V5 v.1 v.2) (fun jJ5=>
 (Nc a0).bind fun r7=>
 (iter (fun(v:Int×(List (Int))×(List (Int)))=>Uk akn r7 v.1 v.2.1 v.2.2) FU ((0:Int),([]:List (Int)),([]:List (Int)))).bind (fun o0=>jJ5 (o0.1,o0.2)))
def Ss (a0:Aa) (a1:Int):Option ((List (Int))):=
 jn (fun(v:Int)=>V6 a0 v) (fun jJ2=>
 (some (if decide (a1<0) then true else decide ((a0.bk.length:Int)<=a1))).bind fun b28=>
 (if b28 then
  jJ2 (-1:Int)
 else
  jJ2 a1))
def Ze:Cj:=mC [OM,Sn] 74 Tryz.f74 (.s .n (.j ⟨[2],[BS 1],[[2]],[]⟩ .n (.s .n (.j ⟨[],[(5, .c (.c (.j_ [5]))),(6, .c (.c (.j_ [6])))],[],[([5], .row 3),([6], .row 3)]⟩ (.s .n (.l ⟨[1,19,20],[(5, .c (.c (.j_ [5]))),(6, .c (.c (.j_ [6]))),BS 21],[],[([5], .row 3),([6], .row 3)]⟩ [(1,⟨[],[(5, .c (.c (.j_ [5]))),(6, .c (.c (.j_ [6])))],[],[([5], .row 3),([6], .row 3)]⟩)] (.s .n (.s .n (.j ⟨[1,19,20,21],[(5, .c (.c (.j_ [5]))),(6, .c (.c (.j_ [6])))],[],[([5], .row 3),([6], .row 3)]⟩ .n .n))))) .n)))) [.s 36, .k (.int .i64)] [.k (.t_ 3)] (fun x=>Ss x.1 x.2.1) Tryz.func74 (by kernel_rfl)
def Zf:Option (Bool):=
 some true
def OP (a0:Aw) (a1:List (Int)) (abO:Int):Option ((Int)⊕(Unit⊕Bool)):=
 (if(decide (abO<(a1.length:Int))) then
  (idx a1 abO).bind fun e7=>
  (some (if decide (e7<0) then true else decide ((a0.Options.length:Int)<=e7))).bind fun b8=>
  (gd (b8==false) (VA a1 e7)).bind fun r9=>
  (some (if b8 then true else r9 != abO)).bind fun b10=>
  (if b10 then
   some (.inr (.inr false))
  else
   some (.inl (Ac (abO+1))))
 else
  some (.inr (.inl ())))
def EV (a0:Aw) (a1:List (Int)):Option (Bool):=
 jn (fun(v:Unit)=>Zf) (fun jJ1=>
 (iter (fun(v:Int)=>OP a0 a1 v) FU (0:Int)).bind (Sum.elim (fun o0=>jJ1 ()) (fun o1=>some o1)))
def aU:Cj:=mC [aM] 122 Tryz.f122 (.s .n (.j M5 (.s .n (.l ⟨[1,2,7,8],[BS 9],[[2]],[]⟩ [(1,M5),(0,⟨[],[JL 4],[],[]⟩)] .n)) .n)) [.s 54, .k (.t_ 3)] [.k (.bool)] (fun x=>EV x.1 x.2.1) Tryz.func122 (by kernel_rfl)
def dR (a0:List (Int)) (a1:Int):Option (Bool):=
 (DD a0 a1).bind fun r1=>
 some r1
def lm:Cj:=mC [Fu] 174 Tryz.f174 .n [.k (.t_ 3), .k (.int .i64)] [.k (.bool)] (fun x=>dR x.1 x.2.1) Tryz.func174 (by kernel_rfl)
def KI (a0:Aa) (a1:Int):Option (Ag×Bool):=
 (Zc a0 a1).bind fun r1=>
 some (r1.1,r1.2)
def gR:Cj:=mC [oJ] 131 Tryz.f131 .n [.s 36, .k (.int .i64)] [.s 70, .k (.bool)] (fun x=>KI x.1 x.2.1) Tryz.func131 (by kernel_rfl)
def Su (a0:Aa) (a1:Int) (r:Ag×Bool):Prop:=BV Tryz.prog I0 131 [vA Db a0,vI a1] (· = .tup [vA AH r.1,vB r.2])
theorem aV {a0:Aa} {a1:Int} {r:Ag×Bool} (h:KI a0 a1=some r):Su a0 a1 r:=IC (by kernel_rfl) (gR.ok (a0,a1,()) r h)
def HR (a0:Aa) (a1:Ag):Option (Bool):=
 (if a1.B_==5 then
  (QP a0 a1.Id).bind fun r2=>
  some (r2==1)
 else
  (KH a0 a1.B_ a1.m_).bind fun r3=>
  (JO r3 a1.Id).bind fun r4=>
  some (r4==1))
def gS (a0:Aa) (a1:Ag) (r:Bool):Prop:=BV Tryz.prog I0 93 [vA Db a0,vA AH a1] (· =vB r)
theorem aW {a0:Aa} {a1:Ag} {r:Bool} (h:HR a0 a1=some r):gS a0 a1 r:=by
 refine BV.bo BT Tryz.func93 rfl Tryz.ntmps93 [.tmp 4] fun _ _ _ _=>?_;unfold HR at h;refine Rg (nA 3) (sl 23 [(2,vP [2] (0)),(3,vP [3] (0))] [bx [3] (AH a1),bx [2] (Db a0)]) (aN)<|hS<|Gg (nA 3) (u [] [(7,vB (a1.B_==5))]) (aN)<|iC h (fun h=>?_) (fun h=>?_)
 ·obtain⟨r2,i0,h⟩:=bS h;exact Rg [.a,.a,.a,(.c (vI r2)),.a,.a] (sl 23 [(4,vB (r2==1))] []) (aC (aK i0)<|aN)<|hR<|Tr<|bQ _ (kB h)
 refine hK<|Tn<|hS ?_;obtain⟨r3,j0,r4,k0,h⟩:=bS2 h;exact Ad.av8 OB [[],[],[1],[],[3],[0,1,2,3,4],[],[6],[0,1,2,3,4,5,6,7],[0,1,2,3,4,5,6,7,8],[0,1,2,3,4,5,6,7,8,9]] [] [[]] [.a,.a,.a,.a,.a,(.c (vL (eI .i64) r3)),.a,.a,(.c (vI r4)),.a,.a] [[3],[2]] ⟨slD 23 0 [(2,[],vP [2] (0)),(3,[],vP [3] (0)),(4,[(10,vB (r4==1))],.undef),(7,[],vB (a1.B_==5)),(13,[(0,vA Db a0)],.undef),(14,[(1,vP [3] (4))],.undef),(15,[(2,vI a1.B_)],.undef),(16,[(3,vP [3] (2))],.undef),(17,[(4,vI a1.m_)],.undef),(18,[(5,vL (eI .i64) r3)],.undef),(19,[(6,vP [3] (0))],.undef),(20,[(7,vI a1.Id)],.undef),(21,[(8,vI r4)],.undef),(22,[(9,vB (r4==1))],.undef)],[([],some (bx [3] (AH a1))),([],some (bx [2] (Db a0)))],[],[]⟩ _ (bC (aN)<|bC (aN)<|bC (aN)<|bC (aN)<|bC (aN)<|bC (aC (ll j0)<|aN)<|bC (aN)<|bC (aN)<|bC (aC (Sl k0)<|aN)<|bC (aN)<|bC (aN)<|bN)<|Tn<|Ls (sl 23 [(4,vB (r4==1))] [])<|hR<|bQ _ (kB h)def ai9:CE TE Tryz.prog I0:=⟨93,[.s 36, .s 70],[.k (.bool)],fun x=>HR x.1 x.2.1,fun x r h=>IC (by kernel_rfl) (aW (r:=r) h),[],fun h=>absurd rfl h,none,(fun _ h=>nomatch h),none,(fun _ _ h=>nomatch h)⟩
def gU:Option (Bool):=
 some true
def Sv (a0:Aa) (amV:Int):Option ((Int)⊕(Unit)):=
 (if(decide (amV<(a0.ack.length:Int))) then
  (idx a0.ack amV).bind fun e11=>
  none
 else
  some (.inr ()))
def Nm (a0:Aa):Option (Bool):=
 jn (fun(v:Unit)=>gU) (fun jJ6=>
 (iter (fun(v:Int)=>Sv a0 v) FU (0:Int)).bind (fun o0=>jJ6 ()))
def PX (a0:Aa) (alg:Int):Option ((Int)⊕(Unit)):=
 (if(decide (alg<(a0.aar.length:Int))) then
  (idx a0.aar alg).bind fun e20=>
  none
 else
  some (.inr ()))
def Nn (a0:Aa):Option (Bool):=
 jn (fun(v:Unit)=>Nm a0) (fun jJ5=>
 (iter (fun(v:Int)=>PX a0 v) FU (0:Int)).bind (fun o0=>jJ5 ()))
def LP (a0:Aa) (aoz:Int):Option ((Int)⊕(Unit)):=
 (if(decide (aoz<(a0.Stack.length:Int))) then
  none
 else
  some (.inr ()))
def Pu (a0:Aa):Option (Bool):=
 (some (if(decide (64<(a0.Stack.length:Int))) then true else decide (64<(a0.aar.length:Int)))).bind fun b1=>
 (some (if b1 then true else decide (64<(a0.ack.length:Int)))).bind fun b2=>
 (if b2 then
  some false
 else
  jn (fun(v:Unit)=>Nn a0) (fun jJ4=>
  (iter (fun(v:Int)=>LP a0 v) FU (0:Int)).bind (fun o0=>jJ4 ())))
def lp:Cj:=mC [Sq,Sk] 53 Tryz.f53 (.s .n (.s .n (.j ⟨[1],[],[[1]],[]⟩ (.s .n (.l ⟨[1],[BS 3],[[1]],[]⟩ [(1,⟨[1],[],[[1]],[]⟩)] (.s .n (.s (.s .x .n) .n)))) (.j ⟨[1],[],[[1]],[]⟩ (.s .n (.l ⟨[1],[BS 5],[[1]],[]⟩ [(5,⟨[1],[],[[1]],[]⟩)] (.s .n (.s (.s .n .x) .n)))) (.j M5 (.s .n (.l ⟨[1],[BS 7],[[1]],[]⟩ [(7,M5)] (.s .n (.s (.s .n .x) .n)))) .n))))) [.s 36] [.k (.bool)] (fun x=>Pu x.1) Tryz.func53 (by kernel_rfl)
end Go.PL
