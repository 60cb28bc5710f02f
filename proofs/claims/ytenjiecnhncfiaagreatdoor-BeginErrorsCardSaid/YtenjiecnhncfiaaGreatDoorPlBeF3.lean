/- Functions of the program, as partial functions in Lean, with proofs. -/
import Derived.Test.YtenjiecnhncfiaaGreatDoorPlBeB
import Derived.Test.YtenjiecnhncfiaaGreatDoorPlBeF0
import Derived.Test.YtenjiecnhncfiaaGreatDoorPlBeF1
import Derived.Test.YtenjiecnhncfiaaGreatDoorPlBeF2
namespace Go.PL
open Go Go.RowKit Go.Proofs
set_option maxRecDepth 100000
set_option linter.all false
set_option maxHeartbeats 4000000
attribute [local irreducible] Ag Cv Co
def RJ:Option (Bool):=
 some true
def Gl (a0:I1) (aek:Int):Option ((Int)⊕(Unit⊕Bool)):=
 (if(decide (aek<(a0.abd.length:Int))) then
  (idx a0.abd aek).bind fun e14=>
  (Hx e14).bind fun r15=>
  (gd (((!r15)==false)&&((decide (0<aek))==true)) (idx a0.abd (Ad (aek - 1)))).bind fun e16=>
  (some (if decide (0<aek) then !(Op.bytesLess e16 e14)else false)).bind fun b17=>
  (some (if !r15 then true else b17)).bind fun b18=>
  (if b18 then
   some (.inr (.inr false))
  else
   some (.inl (Ad (aek+1))))
 else
  some (.inr (.inl ())))
def T1 (a0:I1):Option (Bool):=
 (some (if decide (a0.aef<0) then true else decide (3<a0.aef))).bind fun b1=>
 (some (if b1 then true else decide (a0.Types<1))).bind fun b2=>
 (some (if b2 then true else decide (63<a0.Types))).bind fun b3=>
 (gd (b3==false) (HT a0.Types)).bind fun r4=>
 (some (if b3 then true else !r4)).bind fun b5=>
 (some (if b5 then true else decide (4<(a0.abd.length:Int)))).bind fun b6=>
 (if b6 then
  some false
 else
  jn (fun(v:Unit)=>RJ) (fun jJ8=>
  (iter (fun(v:Int)=>Gl a0 v) FU (0:Int)).bind (Sum.elim (fun o0=>jJ8 ()) (fun o1=>some o1))))
def u0:CE TE Tryz.prog I0:=AA [XA,NA] Aa Ac 9 101 Tryz.f101 (Tryz.f101.body.getD .skip) (.s .n (.s .n (.j ⟨[],[],[],[]⟩ (.s .n (.l ⟨[1,36,37],[(38, .c (.v (.k (.int .i64))))],[[1]],[]⟩ [(1,⟨[],[],[],[]⟩),(0,⟨[],[(2, .c (.v (.k (.bool))))],[],[]⟩)] .n)) .n))) [.s 48] [.k (.bool)] (fun x=>T1 x.1) Tryz.func101 rfl (by kernel_rfl)
def BX (a0:Aj):Option (Bool):=
 (Bb a0.q_ (5:Int)).bind fun r1=>
 (gd ((!r1)==false) (Bb a0.Who (2:Int))).bind fun r2=>
 (some (if !r1 then true else !r2)).bind fun b3=>
 (gd (b3==false) (Bb a0.Self (2:Int))).bind fun r4=>
 (some (if b3 then true else !r4)).bind fun b5=>
 (gd (b5==false) (Bb a0.Tap (2:Int))).bind fun r6=>
 (some (if b5 then true else !r6)).bind fun b7=>
 (gd (b7==false) (Bb a0.Keys (131071:Int))).bind fun r8=>
 (some (if b7 then true else !r8)).bind fun b9=>
 (if b9 then
  some false
 else
  (Bb a0.Types (63:Int)).bind fun r11=>
  (gd ((!r11)==false) (Bb a0.w_ (63:Int))).bind fun r12=>
  (some (if !r11 then true else !r12)).bind fun b13=>
  (some (if b13 then true else(Fk .i64 a0.Types a0.w_) != (0:Int))).bind fun b14=>
  (if b14 then
   some false
  else
   (Bb a0.Tj (31:Int)).bind fun r16=>
   (gd ((!r16)==false) (Bb a0.r_ (31:Int))).bind fun r17=>
   (some (if !r16 then true else !r17)).bind fun b18=>
   (some (if b18 then true else(Fk .i64 a0.Tj a0.r_) != (0:Int))).bind fun b19=>
   (if b19 then
    some false
   else
    (gd ((a0.Sub != ([]:List UInt8))==true) (Hx a0.Sub)).bind fun r21=>
    (some (if(a0.Sub != ([]:List UInt8)) then !r21 else false)).bind fun b22=>
    (if b22 then
     some false
    else
     (Dw a0.Power).bind fun r24=>
     (gd (r24==true) (Dw a0.v_)).bind fun r25=>
     (some (if r24 then r25 else false)).bind fun b26=>
     (gd (b26==true) (Dw a0.Value)).bind fun r27=>
     (some (if b26 then r27 else false)).bind fun b28=>
     some b28))))
def De:CE TE Tryz.prog I0:=AA [Mk,NA,VK] Aa Ac 9 145 Tryz.f145 (Tryz.f145.body.getD .skip) .n [.s 93] [.k (.bool)] (fun x=>BX x.1) Tryz.func145 rfl (by kernel_rfl)
def Cs (a0:Int):Option ((List UInt8)):=
 (some (if decide (a0<1) then true else decide (63<a0))).bind fun b1=>
 (if b1 then
  some ([]:List UInt8)
 else
  (Fu a0).bind fun r3=>
  (QD r3 K9).bind fun r4=>
  some r4)
def Mw:CE TE Tryz.prog I0:=AA [KC,jN] Aa Ac 9 219 Tryz.f219 (Tryz.f219.body.getD .skip) .n [.k (.int .i64)] [.k (.str)] (fun x=>Cs x.1) Tryz.func219 rfl (by kernel_rfl)
def N5 (aop:List (List UInt8)):Option ((List UInt8)):=
 (if((aop.length:Int)==0) then
  some O6
 else
  (Gd aop K9).bind fun r6=>
  some r6)
def ES (r7:(List (Int))) (aih:Int) (agU:List (List UInt8)):Option ((Int×(List (List UInt8)))⊕((List (List UInt8)))):=
 (if(decide (aih<(r7.length:Int))) then
  (idx r7 aih).bind fun e16=>
  (NB e16).bind fun r17=>
  (app 16 agU ([r17]:List (List UInt8))).bind fun l18=>
  some (.inl ((Ad (aih+1)),l18))
 else
  some (.inr agU))
def GU (a0:Int):Option ((List UInt8)):=
 (FN a0).bind fun r1=>
 (if !r1 then
  some ([]:List UInt8)
 else
  jn (fun(v:(List (List UInt8)))=>N5 v) (fun jJ4=>
  (Ft a0).bind fun r7=>
  (iter (fun(v:Int×(List (List UInt8)))=>ES r7 v.1 v.2) FU ((0:Int),([]:List (List UInt8)))).bind (fun o0=>jJ4 o0)))
def cd:CE TE Tryz.prog I0:=AA [TA,RC,bP,Pd] Aa Ac 9 221 Tryz.f221 (Tryz.f221.body.getD .skip) (.s .n (.s .n (.s .n (.j ⟨[],[(3, .c (.c (.h_ [3])))],[],[([3], .row 9)]⟩ (.s .n (.l ⟨[10,11],[(3, .c (.c (.h_ [3]))),(12, .c (.v (.k (.int .i64))))],[],[([3], .row 9)]⟩ [(1,⟨[],[(3, .c (.c (.h_ [3])))],[],[([3], .row 9)]⟩)] .n)) .n)))) [.k (.int .i64)] [.k (.str)] (fun x=>GU x.1) Tryz.func221 rfl (by kernel_rfl)
def Fv (a0:A6 (Int)):Option ((List UInt8)):=
 (Mm a0).bind fun r1=>
 (Mt r1).bind fun r2=>
 some r2
def XO:CE TE Tryz.prog I0:=AA [ajx,Xg] Aa Ac 9 232 Tryz.f232 (Tryz.f232.body.getD .skip) .n [.s 57] [.k (.str)] (fun x=>Fv x.1) Tryz.func232 rfl (by kernel_rfl)
def D6 (aoo:List (List UInt8)):Option ((List UInt8)):=
 (Gd aoo Dt).bind fun r16=>
 (cat sO r16).bind fun s17=>
 (cat s17 sP).bind fun s18=>
 some s18
def D7 (agU:List (List UInt8)):Option ((List UInt8)):=
 jn (fun(v:(List (List UInt8)))=>D6 v) (fun adl=>
 (if((agU.length:Int)==0) then
  adl ([gI]:List (List UInt8))
 else
  adl agU))
def G7 (a0:BV) (afo:List (List UInt8)):Option ((List UInt8)):=
 jn (fun(v:(List (List UInt8)))=>D7 v) (fun aez=>
 (if a0.acL != 0 then
  (Dd a0.acL).bind fun r21=>
  (cat gJ r21).bind fun s22=>
  (app 16 afo ([s22]:List (List UInt8))).bind fun l23=>
  aez l23
 else
  aez afo))
def Iy (a0:BV) (alx:List (List UInt8)):Option ((List UInt8)):=
 jn (fun(v:(List (List UInt8)))=>G7 a0 v) (fun aaR=>
 (if a0.acx then
  (app 16 alx ([Fs]:List (List UInt8))).bind fun l25=>
  aaR l25
 else
  aaR alx))
def EG (a0:BV) (asQ:List (List UInt8)):Option ((List UInt8)):=
 jn (fun(v:(List (List UInt8)))=>Iy a0 v) (fun jJ9=>
 (if a0.Tap then
  (app 16 asQ ([S1]:List (List UInt8))).bind fun l27=>
  jJ9 l27
 else
  jJ9 asQ))
def Df (a0:BV):Option ((List UInt8)):=
 (Qb a0.aaH).bind fun r1=>
 (some (if !r1 then true else a0.aaH.X != 0)).bind fun b2=>
 (some (if b2 then true else decide (a0.acL<0))).bind fun b3=>
 (some (if b3 then true else decide (99<a0.acL))).bind fun b4=>
 (if b4 then
  some ([]:List UInt8)
 else
  jn (fun(v:(List (List UInt8)))=>EG a0 v) (fun jJ7=>
  (if(!(a0.aaH==(⟨0,0,(⟨0,0,0,0,0⟩:A5 (Int))⟩:AB))) then
   (Mt a0.aaH).bind fun r29=>
   (app 16 ([]:List (List UInt8)) ([r29]:List (List UInt8))).bind fun l30=>
   jJ7 l30
  else
   jJ7 ([]:List (List UInt8)))))
def Qs:CE TE Tryz.prog I0:=AA [Vy,Xg,Nv,Pd] Aa Ac 9 150 Tryz.f150 (Tryz.f150.body.getD .skip) (.s .n (.s .n (.s .n (.j ⟨[1],[(3, .c (.c (.h_ [3])))],[[1]],[([3], .row 9)]⟩ .n (.j ⟨[1],[(3, .c (.c (.h_ [3])))],[[1]],[([3], .row 9)]⟩ .n (.j ⟨[1],[(3, .c (.c (.h_ [3])))],[[1]],[([3], .row 9)]⟩ .n (.j ⟨[],[(3, .c (.c (.h_ [3])))],[],[([3], .row 9)]⟩ .n (.j ⟨[],[(3, .c (.v (.k (.u_ 9))))],[],[]⟩ .n .n)))))))) [.s 96] [.k (.str)] (fun x=>Df x.1) Tryz.func150 rfl (by kernel_rfl)
def XP (alo:Int) (alB:List (Int)):Option ((List (Int))×Int):=
 some (alB,alo)
def Bx (agM:Int) (abD:Int) (aa5:List (Int)):Option ((Int×Int×(List (Int)))⊕((Int×(List (Int))))):=
 (if decide (0<abD) then
  (NE agM (Ad (abD+1))).bind fun r17=>
  (idx aa5 r17.1).bind fun e18=>
  (idx aa5 r17.1).bind fun e19=>
  (idx aa5 abD).bind fun e20=>
  (idx aa5 abD).bind fun e21=>
  (idx aa5 abD).bind fun e22=>
  (idx aa5 abD).bind fun e24=>
  (some (aa5.set (abD).toNat e19)).bind fun l23=>
  (idx l23 r17.1).bind fun e25=>
  (idx l23 r17.1).bind fun e27=>
  (some (l23.set (r17.1).toNat e21)).bind fun l26=>
  some (.inl (r17.2,(Ad (abD - 1)),l26))
 else
  some (.inr (agM,aa5)))
def DL (a0:Int) (a1:List (Int)):Option ((List (Int))×Int):=
 (Az a1).bind fun r1=>
 jn (fun(v:Int×(List (Int)))=>XP v.1 v.2) (fun jJ4=>
 (iter (fun(v:Int×Int×(List (Int)))=>Bx v.1 v.2.1 v.2.2) FU (a0,(Ad ((r1.length:Int) - (1:Int))),r1)).bind (fun o0=>jJ4 (o0.1,o0.2)))
def Pn:CE TE Tryz.prog I0:=AA [BF,kg] Aa Ac 9 16 Tryz.f16 (Tryz.f16.body.getD .skip) (.s .n (.s (.r [] [] (.q 1 .co .n)) (.j ⟨[6],[(0, .c (.v (.k (.int .u64))))],[],[([0,0,10], .row 3)]⟩ (.s .n (.l ⟨[6],[(0, .c (.v (.k (.int .u64)))),(7, .c (.v (.k (.int .i64))))],[],[([0,0,10], .row 3)]⟩ [(1,⟨[6],[(0, .c (.v (.k (.int .u64))))],[],[([0,0,10], .row 3)]⟩)] (.s .n (.s (.s .n (.r [] [] (.t .n))) .n)))) .n))) [.k (.int .u64), .k (.u_ 3)] [.k (.u_ 3), .k (.int .u64)] (fun x=>DL x.1 x.2.1) Tryz.func16 rfl (by kernel_rfl)
def dZ (a0:Ao) (Tl:Int) (N_:List (Ay)) (r5:(List (Ar))) (r6:(List (Int))) (r7:(List (Int))) (ac7:List (Bd)) (aeV:List (AK)) (ai2:List (Cm)):Option (Ao):=
 (Az a0.Extra).bind fun r17=>
 (n_ (Tl=((N_.length:Nat):Int))).bind fun _=>
 some (⟨N_,r5,r6,r7,ac7,aeV,ai2,a0.abb,a0.abK,a0.Step,a0.aeg,a0.Priority,a0.Passes,a0.acJ,a0.aaW,a0.adH,r17,a0.ahQ,a0.acZ⟩:Ao)
def d9 (r14:(List (Cm))) (aaT:Int) (abq:List (Cm)):Option ((Int×(List (Cm)))⊕((List (Cm)))):=
 (if(decide (aaT<(r14.length:Int))) then
  (idx abq aaT).bind fun e26=>
  (idx abq aaT).bind fun e27=>
  (Az e27.j_).bind fun r28=>
  (idx abq aaT).bind fun e29=>
  (idx abq aaT).bind fun e31=>
  (some (abq.set (aaT).toNat ({e31 with j_:=r28}))).bind fun l30=>
  (idx l30 aaT).bind fun e32=>
  (idx l30 aaT).bind fun e33=>
  (A9 e33.Tg).bind fun r34=>
  (idx l30 aaT).bind fun e35=>
  (idx l30 aaT).bind fun e37=>
  (some (l30.set (aaT).toNat ({e37 with Tg:=r34}))).bind fun l36=>
  some (.inl ((Ad (aaT+1)),l36))
 else
  some (.inr abq))
def ec (a0:Ao) (Tl:Int) (N_:List (Ay)) (r5:(List (Ar))) (r6:(List (Int))) (r7:(List (Int))) (ac7:List (Bd)) (aeV:List (AK)):Option (Ao):=
 (BI a0.agn).bind fun r14=>
 jn (fun(v:(List (Cm)))=>dZ a0 Tl N_ r5 r6 r7 ac7 aeV v) (fun adW=>
 (iter (fun(v:Int×(List (Cm)))=>d9 r14 v.1 v.2) FU ((0:Int),r14)).bind (fun o0=>adW o0))
def ed (r11:(List (AK))) (adg:Int) (abX:List (AK)):Option ((Int×(List (AK)))⊕((List (AK)))):=
 (if(decide (adg<(r11.length:Int))) then
  (idx abX adg).bind fun e46=>
  (idx abX adg).bind fun e47=>
  (Hy e47.an).bind fun r48=>
  (idx abX adg).bind fun e49=>
  (idx abX adg).bind fun e51=>
  (some (abX.set (adg).toNat ({e51 with an:=r48}))).bind fun l50=>
  some (.inl ((Ad (adg+1)),l50))
 else
  some (.inr abX))
def eg (a0:Ao) (Tl:Int) (N_:List (Ay)) (r5:(List (Ar))) (r6:(List (Int))) (r7:(List (Int))) (ac7:List (Bd)):Option (Ao):=
 (Bg a0.acU).bind fun r11=>
 jn (fun(v:(List (AK)))=>ec a0 Tl N_ r5 r6 r7 ac7 v) (fun aez=>
 (iter (fun(v:Int×(List (AK)))=>ed r11 v.1 v.2) FU ((0:Int),r11)).bind (fun o0=>aez o0))
def eh (r8:(List (Bd))) (abj:Int) (abY:List (Bd)):Option ((Int×(List (Bd)))⊕((List (Bd)))):=
 (if(decide (abj<(r8.length:Int))) then
  (idx abY abj).bind fun e60=>
  (idx abY abj).bind fun e61=>
  (Hy e61.an).bind fun r62=>
  (idx abY abj).bind fun e63=>
  (idx abY abj).bind fun e65=>
  (some (abY.set (abj).toNat ({e65 with an:=r62}))).bind fun l64=>
  (idx l64 abj).bind fun e66=>
  (idx l64 abj).bind fun e67=>
  (Bs e67.agD).bind fun r68=>
  (idx l64 abj).bind fun e69=>
  (idx l64 abj).bind fun e71=>
  (some (l64.set (abj).toNat ({e71 with agD:=r68}))).bind fun l70=>
  some (.inl ((Ad (abj+1)),l70))
 else
  some (.inr abY))
def kn (a0:Ao) (Tl:Int) (N_:List (Ay)):Option (Ao):=
 (Bq a0.j_).bind fun r5=>
 (Az a0.aaP).bind fun r6=>
 (Az a0.agm).bind fun r7=>
 (BG a0.Stack).bind fun r8=>
 jn (fun(v:(List (Bd)))=>eg a0 Tl N_ r5 r6 r7 v) (fun adX=>
 (iter (fun(v:Int×(List (Bd)))=>eh r8 v.1 v.2) FU ((0:Int),r8)).bind (fun o0=>adX o0))
def ei (r1:(List (Ay))) (acm:Int) (aaZ:Int) (Y_:List (Ay)):Option ((Int×Int×(List (Ay)))⊕((Int×(List (Ay))))):=
 (if(decide (acm<(r1.length:Int))) then
  (idx Y_ acm).bind fun e83=>
  (idx Y_ acm).bind fun e84=>
  (n_ (aaZ<=acm)).bind fun u85=>
  (N3 e84).bind fun r86=>
  (idx Y_ acm).bind fun e87=>
  (idx Y_ acm).bind fun e88=>
  (n_ (acm=aaZ)).bind fun u89=>
  (some (Y_.set (acm).toNat (⟨r86.acL,r86.ans,r86.anv,r86.abe,r86.akJ,r86.aoZ,r86.aap,r86.Hand,r86.aeu⟩:Ay))).bind fun l90=>
  some (.inl ((Ad (acm+1)),(aaZ+1),l90))
 else
  some (.inr (aaZ,Y_)))
def Qf (a0:Ao):Option (Ao):=
 (Bp a0.m_).bind fun r1=>
 jn (fun(v:Int×(List (Ay)))=>kn a0 v.1 v.2) (fun jJ4=>
 (iter (fun(v:Int×Int×(List (Ay)))=>ei r1 v.1 v.2.1 v.2.2) FU ((0:Int),(0:Int),r1)).bind (fun o0=>jJ4 (o0.1,o0.2)))
def Po:CE TE Tryz.prog I0:=xN [Ff,TT,Fg,BF,GO,RH,Fi,EC,GR,Dv] Aa Ac 9 27 Tryz.f27 (Tryz.f27.body.getD .skip) (.s .n (.s (.r [] [] (.q 2 .co (.g 3 (.dp 9) .n))) (.j ⟨[1,2],[],[[1],[2]],[([1000003,0,0,9], .deep 59)]⟩ (.s .n (.l ⟨[1,2,13],[(14, .c (.v (.k (.int .i64))))],[[1],[2]],[([1000003,0,0,9], .deep 59)]⟩ [(1,⟨[1,2],[],[[1],[2]],[([1000003,0,0,9], .deep 59)]⟩)] (.s .n (.s .n (.s (.s .n (.r [] [] (.t (.q 8 .co (.q 10 .au .n))))) .n))))) (.s (.r [] [] (.q 2 .co .n)) (.s (.r [] [] (.q 2 .co .n)) (.s (.r [] [] (.q 2 .co .n)) (.s (.r [] [] (.q 2 .co .n)) (.j ⟨[1,2],[],[[1],[0,0,30],[0,0,34],[0,0,38],[2],[1000003,0,0,9]],[([0,0,42], .row 109)]⟩ (.s .n (.l ⟨[1,2,46],[(47, .c (.v (.k (.int .i64))))],[[1],[0,0,30],[0,0,34],[0,0,38],[2],[1000003,0,0,9]],[([0,0,42], .row 109)]⟩ [(3,⟨[1,2],[],[[1],[0,0,30],[0,0,34],[0,0,38],[2],[1000003,0,0,9]],[([0,0,42], .row 109)]⟩)] (.s .n (.s .n (.s (.s .n (.s (.r [] [] (.t .n)) (.r [] [] (.t .n)))) .n))))) (.s (.r [] [] (.q 2 .co .n)) (.j ⟨[1,2],[],[[1],[0,0,30],[0,0,34],[0,0,38],[0,0,42],[2],[1000003,0,0,9]],[([0,0,77], .row 112)]⟩ (.s .n (.l ⟨[1,2,81],[(82, .c (.v (.k (.int .i64))))],[[1],[0,0,30],[0,0,34],[0,0,38],[0,0,42],[2],[1000003,0,0,9]],[([0,0,77], .row 112)]⟩ [(5,⟨[1,2],[],[[1],[0,0,30],[0,0,34],[0,0,38],[0,0,42],[2],[1000003,0,0,9]],[([0,0,77], .row 112)]⟩)] (.s .n (.s .n (.s (.s .n (.r [] [] (.t .n))) .n))))) (.s (.r [] [] (.q 2 .co .n)) (.j ⟨[1,2],[],[[1],[0,0,30],[0,0,34],[0,0,38],[0,0,42],[0,0,77],[2],[1000003,0,0,9]],[([0,0,100], .row 115)]⟩ (.s .n (.l ⟨[1,2,104],[(105, .c (.v (.k (.int .i64))))],[[1],[0,0,30],[0,0,34],[0,0,38],[0,0,42],[0,0,77],[2],[1000003,0,0,9]],[([0,0,100], .row 115)]⟩ [(7,⟨[1,2],[],[[1],[0,0,30],[0,0,34],[0,0,38],[0,0,42],[0,0,77],[2],[1000003,0,0,9]],[([0,0,100], .row 115)]⟩)] (.s .n (.s .n (.s (.s .n (.s (.r [] [] (.t .n)) (.r [] [] (.t .n)))) .n))))) (.s (.r [] [] (.q 2 .co .n)) .n))))))))))))) [[2,1,1,1,1,1,1,0,0,0,0,0,0,0,0,0,1,0,0]] [.s 36] [.s 36] (fun x=>Qf x.1) Tryz.func27 rfl (by kernel_rfl)
def XQ (awo:List (Int)) (awn:List (Int)):Option ((List (Int))):=
 (app 8 awn awo).bind fun l6=>
 some l6
def VP (afb:Int) (asP:List (Int)) (asM:List (Int)):Option ((Int×(List (Int))×(List (Int)))⊕(((List (Int))×(List (Int))))):=
 some (.inl ((Ad (afb+1)),asP,asM))
def VQ (aj0:Int) (r7:(List (Int))) (afb:Int) (akU:List (Int)) (akT:List (Int)):Option ((Int×(List (Int))×(List (Int)))⊕(((List (Int))×(List (Int))))):=
 (if(decide (afb<(r7.length:Int))) then
  jn (fun(v:(List (Int))×(List (Int)))=>VP afb v.1 v.2) (fun ago=>
  (idx r7 afb).bind fun e22=>
  (N4 e22 aj0).bind fun r23=>
  (if(r23==(-1:Int)) then
   (app 8 akU ([e22]:List (Int))).bind fun l25=>
   ago (l25,akT)
  else
   (if r23==1 then
    (app 8 akT ([e22]:List (Int))).bind fun l27=>
    ago (akU,l27)
   else
    ago (akU,akT))))
 else
  some (.inr (akU,akT)))
def XR (a0:Ao) (aj0:Int):Option ((List (Int))):=
 jn (fun(v:(List (Int))×(List (Int)))=>XQ v.1 v.2) (fun jJ5=>
 (Nw a0).bind fun r7=>
 (iter (fun(v:Int×(List (Int))×(List (Int)))=>VQ aj0 r7 v.1 v.2.1 v.2.2) FU ((0:Int),([]:List (Int)),([]:List (Int)))).bind (fun o0=>jJ5 (o0.1,o0.2)))
def T3 (a0:Ao) (a1:Int):Option ((List (Int))):=
 jn (fun(v:Int)=>XR a0 v) (fun K_=>
 (some (if decide (a1<0) then true else decide ((a0.m_.length:Int)<=a1))).bind fun b28=>
 (if b28 then
  K_ (-1:Int)
 else
  K_ a1))
def ce:CE TE Tryz.prog I0:=AA [Pe,TU] Aa Ac 9 59 Tryz.f59 (Tryz.f59.body.getD .skip) (.s .n (.j ⟨[2],[(1, .c (.v (.k (.int .i64))))],[[2]],[]⟩ .n (.s .n (.j ⟨[],[(5, .c (.c (.h_ [5]))),(6, .c (.c (.h_ [6])))],[],[([5], .row 3),([6], .row 3)]⟩ (.s .n (.l ⟨[1,19,20],[(5, .c (.c (.h_ [5]))),(6, .c (.c (.h_ [6]))),(21, .c (.v (.k (.int .i64))))],[],[([5], .row 3),([6], .row 3)]⟩ [(1,⟨[],[(5, .c (.c (.h_ [5]))),(6, .c (.c (.h_ [6])))],[],[([5], .row 3),([6], .row 3)]⟩)] (.s .n (.s .n (.j ⟨[1,19,20,21],[(5, .c (.c (.h_ [5]))),(6, .c (.c (.h_ [6])))],[],[([5], .row 3),([6], .row 3)]⟩ .n .n))))) .n)))) [.s 36, .k (.int .i64)] [.k (.u_ 3)] (fun x=>T3 x.1 x.2.1) Tryz.func59 rfl (by kernel_rfl)
def cf:Option (Bool):=
 some true
def cg (a0:Cc) (a1:List (Int)) (abT:Int):Option ((Int)⊕(Unit⊕Bool)):=
 (if(decide (abT<(a1.length:Int))) then
  (idx a1 abT).bind fun e7=>
  (some (if decide (e7<0) then true else decide ((a0.Options.length:Int)<=e7))).bind fun b8=>
  (gd (b8==false) (Xh a1 e7)).bind fun r9=>
  (some (if b8 then true else r9 != abT)).bind fun b10=>
  (if b10 then
   some (.inr (.inr false))
  else
   some (.inl (Ad (abT+1))))
 else
  some (.inr (.inl ())))
def Iz (a0:Cc) (a1:List (Int)):Option (Bool):=
 jn (fun(v:Unit)=>cf) (fun jJ1=>
 (iter (fun(v:Int)=>cg a0 a1 v) FU (0:Int)).bind (Sum.elim (fun o0=>jJ1 ()) (fun o1=>some o1)))
def ej:CE TE Tryz.prog I0:=AA [dV] Aa Ac 9 96 Tryz.f96 (Tryz.f96.body.getD .skip) (.s .n (.j ⟨[],[],[],[]⟩ (.s .n (.l ⟨[1,2,7,8],[(9, .c (.v (.k (.int .i64))))],[[2]],[]⟩ [(1,⟨[],[],[],[]⟩),(0,⟨[],[(4, .c (.v (.k (.bool))))],[],[]⟩)] .n)) .n)) [.s 81, .k (.u_ 3)] [.k (.bool)] (fun x=>Iz x.1 x.2.1) Tryz.func96 rfl (by kernel_rfl)
def gW (a0:List (Int)) (a1:Int):Option (Bool):=
 (Dx a0 a1).bind fun r1=>
 some r1
def nF:CE TE Tryz.prog I0:=AA [Fb] Aa Ac 9 140 Tryz.f140 (Tryz.f140.body.getD .skip) .n [.k (.u_ 3), .k (.int .i64)] [.k (.bool)] (fun x=>gW x.1 x.2.1) Tryz.func140 rfl (by kernel_rfl)
def JA (a0:List UInt8):Option (Bool):=
 (VO a0).bind fun r1=>
 (gd (r1==true) (Kz)).bind fun r2=>
 (gd (r1==true) (Mr r2 a0)).bind fun r3=>
 (some (if r1 then decide (r3<0)else false)).bind fun b4=>
 (gd (b4==true) (HV)).bind fun r5=>
 (gd (b4==true) (Mr r5 a0)).bind fun r6=>
 (some (if b4 then decide (r6<0)else false)).bind fun b7=>
 some b7
def Pp:CE TE Tryz.prog I0:=AA [bW,VJ,m9,N2] Aa Ac 9 77 Tryz.f77 (Tryz.f77.body.getD .skip) .n [.k (.str)] [.k (.bool)] (fun x=>JA x.1) Tryz.func77 rfl (by kernel_rfl)
def Dm (a0:Int):Option ((List UInt8)):=
 (some (if decide (a0<1) then true else decide (63<a0))).bind fun b1=>
 (if b1 then
  some ([]:List UInt8)
 else
  (HV).bind fun r3=>
  (bZ r3 a0 K9).bind fun r4=>
  some r4)
def N6:CE TE Tryz.prog I0:=AA [N2,kj] Aa Ac 9 155 Tryz.f155 (Tryz.f155.body.getD .skip) .n [.k (.int .i64)] [.k (.str)] (fun x=>Dm x.1) Tryz.func155 rfl (by kernel_rfl)
def Pq (agO:List UInt8):Option ((List UInt8)):=
 (if(agO==([]:List UInt8)) then
  some O6
 else
  some agO)
def Ji (aep:Int) (ado:Int) (aob:List UInt8):Option ((Int×(List UInt8)×Int)⊕((List UInt8))):=
 some (.inl ((Ad (Int.tdiv aep (2:Int))),aob,(Ad (ado+1))))
def NF (ado:Int) (adW:((List UInt8))->Option ((Int×(List UInt8)×Int)⊕((List UInt8)))) (an_:List UInt8):Option ((Int×(List UInt8)×Int)⊕((List UInt8))):=
 (T0 ado).bind fun r20=>
 (cat an_ r20).bind fun s21=>
 adW s21
def T4 (aep:Int) (afj:List UInt8) (ado:Int):Option ((Int×(List UInt8)×Int)⊕((List UInt8))):=
 (if decide (ado<17) then
  jn (fun(v:(List UInt8))=>Ji aep ado v) (fun adW=>
  (if((Int.tmod aep (2:Int))==(1:Int)) then
   jn (fun(v:(List UInt8))=>NF ado adW v) (fun adV=>
   (if(afj != ([]:List UInt8)) then
    (cat afj K9).bind fun s23=>
    adV s23
   else
    adV afj))
  else
   adW afj))
 else
  some (.inr afj))
def Pr (a0:Int):Option ((List UInt8)):=
 (Pf a0).bind fun r1=>
 (if !r1 then
  some ([]:List UInt8)
 else
  jn (fun(v:(List UInt8))=>Pq v) (fun jJ4=>
  (iter (fun(v:Int×(List UInt8)×Int)=>T4 v.1 v.2.1 v.2.2) FU (a0,([]:List UInt8),(0:Int))).bind (fun o0=>jJ4 o0)))
def qZ:CE TE Tryz.prog I0:=AA [nc,b0] Aa Ac 9 157 Tryz.f157 (Tryz.f157.body.getD .skip) (.s .n (.s .n (.s .n (.j ⟨[],[(3, .c (.v (.k (.str))))],[],[]⟩ (.s .n (.l ⟨[],[(0, .c (.v (.k (.int .i64)))),(3, .c (.v (.k (.str)))),(4, .c (.v (.k (.int .i64))))],[],[]⟩ [(1,⟨[],[(3, .c (.v (.k (.str))))],[],[]⟩)] (.s .n (.s (.j ⟨[0,4],[(3, .c (.v (.k (.str))))],[],[]⟩ (.s .n (.i (.j ⟨[0,4],[(3, .c (.v (.k (.str))))],[],[]⟩ .n .n) .n)) .n) .n)))) .n)))) [.k (.int .i64)] [.k (.str)] (fun x=>Pr x.1) Tryz.func157 rfl (by kernel_rfl)
def D0 (a0:List UInt8) (a1:Af):Option ((List UInt8)):=
 (if a1.Kind==0 then
  some ([]:List UInt8)
 else
  (gT).bind fun r2=>
  (idx r2 a1.Kind).bind fun e3=>
  (cat a0 e3).bind fun s4=>
  (Dy a1.N).bind fun r5=>
  (cat s4 r5).bind fun s6=>
  some s6)
def XT:CE TE Tryz.prog I0:=AA [ni,RI] Aa Ac 9 206 Tryz.f206 (Tryz.f206.body.getD .skip) .n [.k (.str), .s 91] [.k (.str)] (fun x=>D0 x.1 x.2.1) Tryz.func206 rfl (by kernel_rfl)
def Xi (aeP:List UInt8):Option ((List UInt8)):=
 (if(aeP==([]:List UInt8)) then
  some gI
 else
  some aeP)
def ko (ab4:Int) (aoa:List UInt8):Option (((List UInt8)×Int)⊕((List UInt8))):=
 some (.inl (aoa,(Ad (ab4+1))))
def EU (a0:AB) (ab4:Int) (akM:List UInt8) (akV:Int):Option (((List UInt8)×Int)⊕((List UInt8))):=
 (idx a0.Color.l ab4).bind fun e25=>
 (idx a0.Color.l ab4).bind fun e26=>
 (if decide (akV<e26) then
  (Zq Mi ab4 (Ad (ab4+1))).bind fun s28=>
  (cat akM s28).bind fun s29=>
  some (.inl (s29,(Ad (akV+1))))
 else
  some (.inr akM))
def Jj (a0:AB) (akN:List UInt8) (ab4:Int):Option (((List UInt8)×Int)⊕((List UInt8))):=
 (if decide (ab4<5) then
  jn (fun(v:(List UInt8))=>ko ab4 v) (fun ahv=>
  (iter (fun(v:(List UInt8)×Int)=>EU a0 ab4 v.1 v.2) FU (akN,(0:Int))).bind (fun o0=>ahv o0))
 else
  some (.inr akN))
def Ps (a0:AB) (ajX:List UInt8):Option ((List UInt8)):=
 jn (fun(v:(List UInt8))=>Xi v) (fun jJ8=>
 (iter (fun(v:(List UInt8)×Int)=>Jj a0 v.1 v.2) FU (ajX,(0:Int))).bind (fun o0=>jJ8 o0))
def Pt (a0:AB) (agO:List UInt8):Option ((List UInt8)):=
 jn (fun(v:(List UInt8))=>Ps a0 v) (fun jJ6=>
 (if a0.Generic != 0 then
  (Dy a0.Generic).bind fun r31=>
  (cat agO r31).bind fun s32=>
  jJ6 s32
 else
  jJ6 agO))
def EV (a0:AB) (akL:List UInt8) (akZ:Int):Option (((List UInt8)×Int)⊕((List UInt8))):=
 (if decide (akZ<a0.X) then
  (cat akL sN).bind fun s40=>
  some (.inl (s40,(Ad (akZ+1))))
 else
  some (.inr akL))
def T5 (a0:AB):Option ((List UInt8)):=
 (VI a0).bind fun r1=>
 (if !r1 then
  some ([]:List UInt8)
 else
  jn (fun(v:(List UInt8))=>Pt a0 v) (fun jJ4=>
  (iter (fun(v:(List UInt8)×Int)=>EV a0 v.1 v.2) FU (([]:List UInt8),(0:Int))).bind (fun o0=>jJ4 o0)))
def q8:CE TE Tryz.prog I0:=AA [bB,RI] Aa Ac 9 211 Tryz.f211 (Tryz.f211.body.getD .skip) (.s .n (.s .n (.s .n (.j ⟨[1],[(3, .c (.v (.k (.str))))],[[1]],[]⟩ (.s .n (.l ⟨[1],[(3, .c (.v (.k (.str)))),(4, .c (.v (.k (.int .i64))))],[[1]],[]⟩ [(1,⟨[1],[(3, .c (.v (.k (.str))))],[[1]],[]⟩)] .n)) (.j ⟨[1],[(3, .c (.v (.k (.str))))],[[1]],[]⟩ .n (.j ⟨[],[(3, .c (.v (.k (.str))))],[],[]⟩ (.s .n (.l ⟨[1],[(3, .c (.v (.k (.str)))),(5, .c (.v (.k (.int .i64))))],[[1]],[]⟩ [(3,⟨[],[(3, .c (.v (.k (.str))))],[],[]⟩)] (.s .n (.j ⟨[1,5],[(3, .c (.v (.k (.str))))],[[1]],[]⟩ (.s .n (.l ⟨[1,5],[(3, .c (.v (.k (.str)))),(6, .c (.v (.k (.int .i64))))],[[1]],[]⟩ [(5,⟨[1,5],[(3, .c (.v (.k (.str))))],[[1]],[]⟩)] .n)) .n)))) .n)))))) [.s 45] [.k (.str)] (fun x=>T5 x.1) Tryz.func211 rfl (by kernel_rfl)
end Go.PL
