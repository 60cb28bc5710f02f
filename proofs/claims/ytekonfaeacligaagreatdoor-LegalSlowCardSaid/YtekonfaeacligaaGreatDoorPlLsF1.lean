/- Functions of the program, as partial functions in Lean, with proofs. -/
import Derived.Test.YtekonfaeacligaaGreatDoorPlLsB
import Derived.Test.YtekonfaeacligaaGreatDoorPlLsF0
namespace Go.PL
open Go Go.RowKit Go.Proofs
set_option maxRecDepth 100000
set_option linter.all false
set_option maxHeartbeats 4000000
attribute [local irreducible] Ak BW BI
def Jg (a0:List (AI)):Option (Bool):=
 some (decide ((a0.length:Int)<=20))
def Fe (a0:List (AI)) (D_:Int):Option ((Int)⊕(Unit⊕Bool)):=
 (if(decide (D_<(a0.length:Int))) then
  (idx a0 D_).bind fun e7=>
  (Mk e7).bind fun r8=>
  (if !r8 then
   some (.inr (.inr false))
  else
   some (.inl (Aj (D_+1))))
 else
  some (.inr (.inl ())))
def Fm (a0:List (AI)):Option (Bool):=
 jn (fun(v:Unit)=>Jg a0) (fun jJ1=>
 (iter (fun(v:Int)=>Fe a0 v) FU (0:Int)).bind (Sum.elim (fun o0=>jJ1 ()) (fun o1=>some o1)))
def Sm:BH:=mC [fW] 26 Tryz.f26 (.s .n (.j ⟨[0],[],[],[]⟩ (.s .n (.l ⟨[0],[Ci 3],[],[]⟩ [(1,⟨[0],[],[],[]⟩),(0,⟨[],[GE 2],[],[]⟩)] .n)) .n)) [.k (.w_ 112)] [.k (.bool)] (fun x=>Fm x.1) Tryz.func26 (by kernel_rfl)
def Y7:Option (Bool):=
 some true
def HB (a0:List UInt8) (aaH:Int):Option ((Int)⊕(Unit⊕Bool)):=
 (if(decide (aaH<(a0.length:Int))) then
  (aaZ a0 aaH).bind fun c14=>
  (OR c14).bind fun r15=>
  (gd ((!r15)==true) (aaZ a0 aaH)).bind fun c16=>
  (gd (((!r15)==true)&&((decide (c16<48))==false)) (aaZ a0 aaH)).bind fun c17=>
  (some (if decide (c16<48) then true else decide (57<c17))).bind fun b18=>
  (some (if !r15 then b18 else false)).bind fun b19=>
  (gd (b19==true) (aaZ a0 aaH)).bind fun c20=>
  (some (if b19 then c20 != 45 else false)).bind fun b21=>
  (if b21 then
   some (.inr (.inr false))
  else
   (gd ((decide (0<aaH))==true) (aaZ a0 aaH)).bind fun c23=>
   (some (if decide (0<aaH) then c23==45 else false)).bind fun b24=>
   (gd (b24==true) (aaZ a0 (Aj (aaH - 1)))).bind fun c25=>
   (some (if b24 then c25==45 else false)).bind fun b26=>
   (if b26 then
    some (.inr (.inr false))
   else
    some (.inl (Aj (aaH+1)))))
 else
  some (.inr (.inl ())))
def QI (a0:List UInt8):Option (Bool):=
 (some (if(decide ((a0.length:Int)<1)) then true else decide (32<(a0.length:Int)))).bind fun b1=>
 (gd (b1==false) (aaZ a0 (0:Int))).bind fun c2=>
 (gd (b1==false) (OR c2)).bind fun r3=>
 (some (if b1 then true else !r3)).bind fun b4=>
 (gd (b4==false) (aaZ a0 (Aj ((a0.length:Int) - (1:Int))))).bind fun c5=>
 (some (if b4 then true else c5==45)).bind fun b6=>
 (if b6 then
  some false
 else
  jn (fun(v:Unit)=>Y7) (fun jJ8=>
  (iter (fun(v:Int)=>HB a0 v) FU (0:Int)).bind (Sum.elim (fun o0=>jJ8 ()) (fun o1=>some o1))))
def Wf:BH:=mC [pO] 27 Tryz.f27 (.s .n (.s .n (.j Ho (.s .n (.l ⟨[0],[Ci 3],[],[]⟩ [(1,Ho),(0,⟨[],[GE 2],[],[]⟩)] .n)) .n))) [.k (.str)] [.k (.bool)] (fun x=>QI x.1) Tryz.func27 (by kernel_rfl)
def W5 (aiV:List UInt8):Option ((List UInt8)):=
 some aiV
def Wg (abN:Int) (ahG:List UInt8):Option (((List UInt8)×Int)⊕((List UInt8))):=
 some (.inl (ahG,(Aj (abN+1))))
def Wh (a0:List (List UInt8)) (abN:Int) (ab9:((List UInt8))->Option (((List UInt8)×Int)⊕((List UInt8)))) (ahF:List UInt8):Option (((List UInt8)×Int)⊕((List UInt8))):=
 (idx a0 abN).bind fun e16=>
 (cat ahF e16).bind fun s17=>
 ab9 s17
def W6 (a0:List (List UInt8)) (a1:Int) (a2:List UInt8) (adl:List UInt8) (abN:Int):Option (((List UInt8)×Int)⊕((List UInt8))):=
 (if(decide (abN<(a0.length:Int))) then
  jn (fun(v:(List UInt8))=>Wg abN v) (fun ab9=>
  (H9 a1 abN).bind fun r12=>
  (if r12 then
   jn (fun(v:(List UInt8))=>Wh a0 abN ab9 v) (fun aeL=>
   (if(adl != ([]:List UInt8)) then
    (cat adl a2).bind fun s19=>
    aeL s19
   else
    aeL adl))
  else
   ab9 adl))
 else
  some (.inr adl))
def Wi (a0:List (List UInt8)) (a1:Int) (a2:List UInt8):Option ((List UInt8)):=
 jn (fun(v:(List UInt8))=>W5 v) (fun jJ2=>
 (iter (fun(v:(List UInt8)×Int)=>W6 a0 a1 a2 v.1 v.2) FU (([]:List UInt8),(0:Int))).bind (fun o0=>jJ2 o0))
def bp:BH:=mC [Y1] 175 Tryz.f175 (.s .n (.s .n (.j ⟨[],[Md 7],[],[]⟩ (.s .n (.l ⟨[0,1,2],[Md 7,Ci 8],[],[]⟩ [(1,⟨[],[Md 7],[],[]⟩)] (.s .n (.j ⟨[0,1,2,8],[Md 7],[],[]⟩ (.s .n (.i (.j ⟨[0,1,2,8],[Md 7],[],[]⟩ .n .n) .n)) .n)))) .n))) [.k (.w_ 9), .k (.int .i64), .k (.str)] [.k (.str)] (fun x=>Wi x.1 x.2.1 x.2.2.1) Tryz.func175 (by kernel_rfl)
def gy (agC:List UInt8):Option ((List UInt8)):=
 some agC
def br (abf:Int) (af9:List UInt8):Option (((List UInt8)×Int)⊕((List UInt8))):=
 some (.inl (af9,(Aj (abf+1))))
def bt (abf:Int) (afm:((List UInt8))->Option (((List UInt8)×Int)⊕((List UInt8)))) (af7:List UInt8):Option (((List UInt8)×Int)⊕((List UInt8))):=
 (Lw abf).bind fun r20=>
 (cat af7 r20).bind fun s21=>
 afm s21
def bu (a0:Int) (abJ:List UInt8) (abf:Int):Option (((List UInt8)×Int)⊕((List UInt8))):=
 (if decide (abf<5) then
  jn (fun(v:(List UInt8))=>br abf v) (fun afm=>
  (DG (0<=abf)).bind fun u15=>
  (DG ((Aj ((1:Int)*2 ^ (min (abf).toNat (IntKind.i64).bits))) ≠ 0)).bind fun u16=>
  (if((Int.tmod (Aj (Int.tdiv a0 (Aj ((1:Int)*2 ^ (min (abf).toNat (IntKind.i64).bits))))) (2:Int))==(1:Int)) then
   jn (fun(v:(List UInt8))=>bt abf afm v) (fun afj=>
   (if(abJ != ([]:List UInt8)) then
    (cat abJ SW).bind fun s23=>
    afj s23
   else
    afj abJ))
  else
   afm abJ))
 else
  some (.inr abJ))
def Jh (a0:Int):Option ((List UInt8)):=
 (bg a0).bind fun r1=>
 (if !r1 then
  some ([]:List UInt8)
 else if a0==0 then
  some fF
 else
  jn (fun(v:(List UInt8))=>gy v) (fun jJ5=>
  (iter (fun(v:(List UInt8)×Int)=>bu a0 v.1 v.2) FU (([]:List UInt8),(0:Int))).bind (fun o0=>jJ5 o0)))
def kN:BH:=mC [tG,V3] 119 Tryz.f119 (.s .n (.s .n (.s .n (.s .n (.j ⟨[],[Md 3],[],[]⟩ (.s .n (.l ⟨[0],[Md 3,Ci 4],[],[]⟩ [(1,⟨[],[Md 3],[],[]⟩)] (.s .n (.j ⟨[0,4],[Md 3],[],[]⟩ (.s .n (.i (.j ⟨[0,4],[Md 3],[],[]⟩ .n .n) .n)) .n)))) .n))))) [.k (.int .i64)] [.k (.str)] (fun x=>Jh x.1) Tryz.func119 (by kernel_rfl)
def O2 (a0:Int):Option ((List UInt8)):=
 (some (if decide (a0<0) then true else decide (16<a0))).bind fun b1=>
 (if b1 then
  some ([]:List UInt8)
 else
  (Y2).bind fun r3=>
  (idx r3 a0).bind fun e4=>
  some e4)
def Wj:BH:=mC [gf] 178 Tryz.f178 .n [.k (.int .i64)] [.k (.str)] (fun x=>O2 x.1) Tryz.func178 (by kernel_rfl)
def CH (a0:Int):Option ((List UInt8)):=
 (if decide (a0<0) then
  (Hw (IntKind.u64.wrap (0 - (IntKind.u64.wrap (a0))))).bind fun r2=>
  (cat xc r2).bind fun s3=>
  some s3
 else
  (Hw (IntKind.u64.wrap (a0))).bind fun r4=>
  some r4)
def NL:BH:=mC [aeD] 122 Tryz.f122 .n [.k (.int .i64)] [.k (.str)] (fun x=>CH x.1) Tryz.func122 (by kernel_rfl)
def Mq (a0:CL):Option (Bool):=
 (QF a0.agn).bind fun r1=>
 (some (if r1 then a0.agn.X==0 else false)).bind fun b2=>
 (some (if b2 then decide (0<=a0.ad4)else false)).bind fun b3=>
 (some (if b3 then decide (a0.ad4<=99)else false)).bind fun b4=>
 some b4
def gz:BH:=mC [V1] 55 Tryz.f55 .n [.s 62] [.k (.bool)] (fun x=>Mq x.1) Tryz.func55 (by kernel_rfl)
def Ix (a0:Int):Option (Bool):=
 (Lx a0).bind fun r1=>
 (gd ((r1 != ([]:List UInt8))==true) (Hx a0)).bind fun r2=>
 (some (if !r2 then true else a0==9)).bind fun b3=>
 (some (if(r1 != ([]:List UInt8)) then b3 else false)).bind fun b4=>
 some b4
def Sn:BH:=mC [V7,OV] 106 Tryz.f106 .n [.k (.int .i64)] [.k (.bool)] (fun x=>Ix x.1) Tryz.func106 (by kernel_rfl)
def gA:Option (Bool):=
 some false
def R2 (a1:Int) (r1:(List UInt8)) (afo:Int):Option ((Int)⊕(Unit⊕Bool)):=
 (if(decide (afo<(r1.length:Int))) then
  (aaZ r1 afo).bind fun c8=>
  (if c8==a1 then
   some (.inr (.inr true))
  else
   some (.inl (Aj (afo+1))))
 else
  some (.inr (.inl ())))
def CQ (a0:Int) (a1:Int):Option (Bool):=
 (OX a0).bind fun r1=>
 jn (fun(v:Unit)=>gA) (fun jJ2=>
 (iter (fun(v:Int)=>R2 a1 r1 v) FU (0:Int)).bind (Sum.elim (fun o0=>jJ2 ()) (fun o1=>some o1)))
def kO:BH:=mC [kF] 166 Tryz.f166 (.s .n (.s .n (.j Ho (.s .n (.l ⟨[1,5],[Ci 6],[],[]⟩ [(1,Ho),(0,⟨[],[GE 4],[],[]⟩)] .n)) .n))) [.k (.int .i64), .k (.int .u8)] [.k (.bool)] (fun x=>CQ x.1 x.2.1) Tryz.func166 (by kernel_rfl)
def LF:Option (Bool):=
 some true
def LG (AT:Int):Option ((Int)⊕(Unit⊕Bool)):=
 some (.inl (Aj (AT+1)))
def CR (a0:List (A4)) (a1:A4) (AT:Int) (afg:Int):Option ((Int)⊕(Unit⊕Bool)):=
 (idx a1.i_ AT).bind fun e12=>
 (if(decide (afg<(e12.B_.length:Int))) then
  (idx a1.i_ AT).bind fun e14=>
  (idx e14.B_ afg).bind fun e15=>
  (gd ((e15.Op==12)==true) (Mn a0 e15.abF)).bind fun r16=>
  (some (if e15.Op==12 then !r16 else false)).bind fun b17=>
  (if b17 then
   some (.inr (.inr false))
  else
   some (.inl (Aj (afg+1))))
 else
  some (.inr (.inl ())))
def Dt (a0:List (A4)) (a1:A4) (AT:Int):Option ((Int)⊕(Unit⊕Bool)):=
 (if(decide (AT<(a1.i_.length:Int))) then
  jn (fun(v:Unit)=>LG AT) (fun jJ7=>
  (iter (fun(v:Int)=>CR a0 a1 AT v) FU (0:Int)).bind (Sum.elim (fun o0=>jJ7 ()) (fun o1=>some (.inr (.inr o1)))))
 else
  some (.inr (.inl ())))
def If (a0:List (A4)) (a1:A4):Option (Bool):=
 jn (fun(v:Unit)=>LF) (fun jJ1=>
 (iter (fun(v:Int)=>Dt a0 a1 v) FU (0:Int)).bind (Sum.elim (fun o0=>jJ1 ()) (fun o1=>some o1)))
def W7:BH:=mC [gp] 17 Tryz.f17 (.s .n (.j Ho (.s .n (.l ⟨[0,3],[Ci 5],[[3]],[]⟩ [(1,Ho),(0,⟨[],[GE 4],[],[]⟩)] (.s .n (.j ⟨[0,3,5],[],[[3]],[]⟩ (.s .n (.l ⟨[0,3,5],[Ci 6],[[3]],[]⟩ [(3,⟨[0,3,5],[],[[3]],[]⟩),(0,⟨[],[GE 4],[],[]⟩)] .n)) .n)))) .n)) [.k (.w_ 88), .s 88] [.k (.bool)] (fun x=>If x.1 x.2.1) Tryz.func17 (by kernel_rfl)
def LH (a0:AF) (a1:Int):Option (Ba×Bool):=
 (Mp a0 a1).bind fun r1=>
 (if decide (r1<0) then
  some ((⟨0,0,0,0,0,false,false,false,false,0,(⟨0,0,0⟩:A3 (Int)),0,0,0,false,0,0⟩:Ba),false)
 else
  (idx a0.b_ r1).bind fun e3=>
  some (e3,true))
def kP:BH:=mC [gu] 112 Tryz.f112 .n [.s 31, .k (.int .i64)] [.s 94, .k (.bool)] (fun x=>LH x.1 x.2.1) Tryz.func112 (by kernel_rfl)
def CB (a0:AF) (a1:Int):Option (Bool):=
 (Ds a1 (0:Int) (Aj ((a0.e_.length:Int) - (1:Int)))).bind fun r1=>
 some r1
def JT:BH:=mC [LD] 20 Tryz.f20 .n [.s 31, .k (.int .i64)] [.k (.bool)] (fun x=>CB x.1 x.2.1) Tryz.func20 (by kernel_rfl)
def bw (a0:Ba) (a1:Int) (a2:Int):Option (Bool):=
 (some (if decide (a0.Id<1) then true else decide (a0.abF<0))).bind fun b1=>
 (some (if b1 then true else decide (a1<=a0.abF))).bind fun b2=>
 (some (if b2 then true else decide (a0.acK<0))).bind fun b3=>
 (some (if b3 then true else decide (a2<=a0.acK))).bind fun b4=>
 (some (if b4 then true else decide (a0.Control<0))).bind fun b5=>
 (some (if b5 then true else decide (a2<=a0.Control))).bind fun b6=>
 (some (if b6 then true else decide (a0.F_<0))).bind fun b7=>
 (some (if b7 then true else decide (5<a0.F_))).bind fun b8=>
 (if b8 then
  some false
 else
  (some (if decide (a0.adG<0) then true else decide (1000000<a0.adG))).bind fun b10=>
  (some (if b10 then true else decide (a0.abC<0))).bind fun b11=>
  (some (if b11 then true else decide (1000000<a0.abC))).bind fun b12=>
  (some (if b12 then true else decide (a0.adH<0))).bind fun b13=>
  (some (if b13 then true else decide (1000000<a0.adH))).bind fun b14=>
  (some (if b14 then true else decide (a0.adF<0))).bind fun b15=>
  (some (if b15 then true else decide (1000000<a0.adF))).bind fun b16=>
  (if b16 then
   some false
  else
   (bl a0.Counters).bind fun r18=>
   (some (if !r18 then true else decide (a0.afC<(-1:Int)))).bind fun b19=>
   (some (if b19 then true else decide (a1<=a0.afC))).bind fun b20=>
   (some (if b20 then true else decide (a0.adI<(-1:Int)))).bind fun b21=>
   (some (if b21 then true else decide (a2<=a0.adI))).bind fun b22=>
   (if b22 then
    some false
   else
    (gd ((a0.F_==0)==false) (Wc a0)).bind fun r24=>
    (gd (((a0.F_==0)==false)&&((a0==r24)==true)) (QH a0)).bind fun r25=>
    (some (if a0==r24 then a0==r25 else false)).bind fun b26=>
    (some (if b26 then !a0.acZ else false)).bind fun b27=>
    (some (if b27 then !a0.ajS else false)).bind fun b28=>
    (some (if b28 then a0.Counters==(⟨0,0,0⟩:A3 (Int))else false)).bind fun b29=>
    (some (if a0.F_==0 then true else b29)).bind fun b30=>
    some b30)))
def tJ:BH:=mC [tH,kK,gw] 37 Tryz.f37 .n [.s 94, .k (.int .i64), .k (.int .i64)] [.k (.bool)] (fun x=>bw x.1 x.2.1 x.2.2.1) Tryz.func37 (by kernel_rfl)
def O3 (a0:AF) (a1:Int) (a2:Int):Option ((List (Int))):=
 (if a1==0 then
  (FN a0.Tl).bind fun r2=>
  some r2
 else if a1==4 then
  (FN a0.ac5).bind fun r4=>
  some r4
 else
  (some (if decide (a2<0) then true else decide ((a0.e_.length:Int)<=a2))).bind fun b5=>
  (if b5 then
   some ([]:List (Int))
  else if a1==1 then
   (idx a0.e_ a2).bind fun e8=>
   (FN e8.Hand).bind fun r9=>
   some r9
  else if a1==2 then
   (idx a0.e_ a2).bind fun e11=>
   (FN e11.aaV).bind fun r12=>
   some r12
  else if a1==3 then
   (idx a0.e_ a2).bind fun e14=>
   (FN e14.aaF).bind fun r15=>
   some r15
  else
   some ([]:List (Int))))
def kQ:BH:=mX [kL] 66 Tryz.f66 (.s .n (.s (.s .n (.s .n (.i (.s (.r [] [] (.q 2 .co .n)) .n) (.s .n (.i (.s (.r [] [] (.q 2 .co .n)) .n) .n))))) (.s .n (.s (.s .n (.s .n (.i (.s (.r [] [] (.q 6 .co .n)) .n) (.s .n (.i (.s (.r [] [] (.q 6 .co .n)) .n) (.s .n (.i (.s (.r [] [] (.q 6 .co .n)) .n) .n))))))) .n)))) [[1]] [.s 31, .k (.int .i64), .k (.int .i64)] [.k (.w_ 3)] (fun x=>O3 x.1 x.2.1 x.2.2.1) Tryz.func66 (by kernel_rfl)
def gB (a0:AI) (a1:AI):Option (Bool):=
 (some (if a0.Op==a1.Op then a0.Ref==a1.Ref else false)).bind fun b1=>
 (some (if b1 then a0.abj==a1.abj else false)).bind fun b2=>
 (some (if b2 then a0.q_==a1.q_ else false)).bind fun b3=>
 (some (if b3 then a0.F_==a1.F_ else false)).bind fun b4=>
 (some (if b4 then a0.abF==a1.abF else false)).bind fun b5=>
 (some (if b5 then a0.Filter==a1.Filter else false)).bind fun b6=>
 (some (if b6 then a0.aa_==a1.aa_ else false)).bind fun b7=>
 (gd (b7==true) (EB a0.N_ a1.N_)).bind fun r8=>
 (some (if b7 then r8 else false)).bind fun b9=>
 some b9
def kR:BH:=mC [LE] 174 Tryz.f174 .n [.s 112, .s 112] [.k (.bool)] (fun x=>gB x.1 x.2.1) Tryz.func174 (by kernel_rfl)
end Go.PL
