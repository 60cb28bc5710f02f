/- Functions of the program, as partial functions in Lean, with proofs. -/
import Derived.Test.YteginlijmbcopaaGreatDoorPlBlB
import Derived.Test.YteginlijmbcopaaGreatDoorPlBlF0
import Derived.Test.YteginlijmbcopaaGreatDoorPlBlF1
import Derived.Test.YteginlijmbcopaaGreatDoorPlBlF2
namespace Go.PL
open Go Go.RowKit Go.Proofs
set_option maxRecDepth 100000
set_option linter.all false
set_option maxHeartbeats 4000000
attribute [local irreducible] Aq Cr Cc
def Jb (a0:List UInt8):Option (Bool):=
 (Uz a0).bind fun r1=>
 (gd (r1==true) (JQ)).bind fun r2=>
 (gd (r1==true) (LW r2 a0)).bind fun r3=>
 (some (if r1 then decide (r3<0)else false)).bind fun b4=>
 (gd (b4==true) (Hz)).bind fun r5=>
 (gd (b4==true) (LW r5 a0)).bind fun r6=>
 (some (if b4 then decide (r6<0)else false)).bind fun b7=>
 some b7
def Ov:A9:=mC [ZR,Up,mR,Na] 160 Tryz.f160 .n [.k (.str)] [.k (.bool)] (fun x=>Jb x.1) Tryz.func160 (by kernel_rfl)
def Dh (a0:Int):Option ((List UInt8)):=
 (some (if decide (a0<1) then true else decide (63<a0))).bind fun b1=>
 (if b1 then
  some ([]:List UInt8)
 else
  (Hz).bind fun r3=>
  (ZU r3 a0 Xc).bind fun r4=>
  some r4)
def Nd:A9:=mC [Na,jz] 195 Tryz.f195 .n [.k (.int .i64)] [.k (.str)] (fun x=>Dh x.1) Tryz.func195 (by kernel_rfl)
def Ow (ajj:List UInt8):Option ((List UInt8)):=
 (if(ajj==([]:List UInt8)) then
  some my
 else
  some ajj)
def IL (afN:Int) (aej:Int) (asX:List UInt8):Option ((Int×(List UInt8)×Int)⊕((List UInt8))):=
 some (.inl ((Ab (Int.tdiv afN (2:Int))),asX,(Ab (aej+1))))
def MO (aej:Int) (agU:((List UInt8))->Option ((Int×(List UInt8)×Int)⊕((List UInt8)))) (asV:List UInt8):Option ((Int×(List UInt8)×Int)⊕((List UInt8))):=
 (Sm aej).bind fun r20=>
 (cat asV r20).bind fun s21=>
 agU s21
def Sx (afN:Int) (agM:List UInt8) (aej:Int):Option ((Int×(List UInt8)×Int)⊕((List UInt8))):=
 (if decide (aej<17) then
  jn (fun(v:(List UInt8))=>IL afN aej v) (fun agU=>
  (if((Int.tmod afN (2:Int))==(1:Int)) then
   jn (fun(v:(List UInt8))=>MO aej agU v) (fun amb=>
   (if(agM != ([]:List UInt8)) then
    (cat agM Xc).bind fun s23=>
    amb s23
   else
    amb agM))
  else
   agU agM))
 else
  some (.inr agM))
def Ox (a0:Int):Option ((List UInt8)):=
 (Oa a0).bind fun r1=>
 (if !r1 then
  some ([]:List UInt8)
 else
  jn (fun(v:(List UInt8))=>Ow v) (fun jJ4=>
  (iter (fun(v:Int×(List UInt8)×Int)=>Sx v.1 v.2.1 v.2.2) FU (a0,([]:List UInt8),(0:Int))).bind (fun o0=>jJ4 o0)))
def rj:A9:=mC [mS,ZV] 197 Tryz.f197 (.s .n (.s .n (.s .n (.j ⟨[],[O4 3],[],[]⟩ (.s .n (.l ⟨[],[A0 0,O4 3,A0 4],[],[]⟩ [(1,⟨[],[O4 3],[],[]⟩)] (.s .n (.s (.j ⟨[0,4],[O4 3],[],[]⟩ (.s .n (.i (.j ⟨[0,4],[O4 3],[],[]⟩ .n .n) .n)) .n) .n)))) .n)))) [.k (.int .i64)] [.k (.str)] (fun x=>Ox x.1) Tryz.func197 (by kernel_rfl)
def DW (a0:List UInt8) (a1:As):Option ((List UInt8)):=
 (if a1.Kind==0 then
  some ([]:List UInt8)
 else
  (fG).bind fun r2=>
  (idx r2 a1.Kind).bind fun e3=>
  (cat a0 e3).bind fun s4=>
  (Du a1.N).bind fun r5=>
  (cat s4 r5).bind fun s6=>
  some s6)
def Wy:A9:=mC [mY,QU] 243 Tryz.f243 .n [.k (.str), .s 108] [.k (.str)] (fun x=>DW x.1 x.2.1) Tryz.func243 (by kernel_rfl)
def VX (aji:List UInt8):Option ((List UInt8)):=
 (if(aji==([]:List UInt8)) then
  some yA
 else
  some aji)
def jJ (acN:Int) (asW:List UInt8):Option (((List UInt8)×Int)⊕((List UInt8))):=
 some (.inl (asW,(Ab (acN+1))))
def GC (a0:AS) (acN:Int) (aoX:List UInt8) (ao3:Int):Option (((List UInt8)×Int)⊕((List UInt8))):=
 (idx a0.Color.l acN).bind fun e25=>
 (idx a0.Color.l acN).bind fun e26=>
 (if decide (ao3<e26) then
  (gL Un acN (Ab (acN+1))).bind fun s28=>
  (cat aoX s28).bind fun s29=>
  some (.inl (s29,(Ab (ao3+1))))
 else
  some (.inr aoX))
def IM (a0:AS) (aoY:List UInt8) (acN:Int):Option (((List UInt8)×Int)⊕((List UInt8))):=
 (if decide (acN<5) then
  jn (fun(v:(List UInt8))=>jJ acN v) (fun akH=>
  (iter (fun(v:(List UInt8)×Int)=>GC a0 acN v.1 v.2) FU (aoY,(0:Int))).bind (fun o0=>akH o0))
 else
  some (.inr aoY))
def Oy (a0:AS) (au2:List UInt8):Option ((List UInt8)):=
 jn (fun(v:(List UInt8))=>VX v) (fun jJ8=>
 (iter (fun(v:(List UInt8)×Int)=>IM a0 v.1 v.2) FU (au2,(0:Int))).bind (fun o0=>jJ8 o0))
def Oz (a0:AS) (ajj:List UInt8):Option ((List UInt8)):=
 jn (fun(v:(List UInt8))=>Oy a0 v) (fun jJ6=>
 (if a0.Generic != 0 then
  (Du a0.Generic).bind fun r31=>
  (cat ajj r31).bind fun s32=>
  jJ6 s32
 else
  jJ6 ajj))
def GD (a0:AS) (aoW:List UInt8) (apf:Int):Option (((List UInt8)×Int)⊕((List UInt8))):=
 (if decide (apf<a0.X) then
  (cat aoW Ada).bind fun s40=>
  some (.inl (s40,(Ab (apf+1))))
 else
  some (.inr aoW))
def Sy (a0:AS):Option ((List UInt8)):=
 (Uo a0).bind fun r1=>
 (if !r1 then
  some ([]:List UInt8)
 else
  jn (fun(v:(List UInt8))=>Oz a0 v) (fun jJ4=>
  (iter (fun(v:(List UInt8)×Int)=>GD a0 v.1 v.2) FU (([]:List UInt8),(0:Int))).bind (fun o0=>jJ4 o0)))
def rk:A9:=mC [Zt,QU] 271 Tryz.f271 (.s .n (.s .n (.s .n (.j ⟨[1],[O4 3],[[1]],[]⟩ (.s .n (.l ⟨[1],[O4 3,A0 4],[[1]],[]⟩ [(1,⟨[1],[O4 3],[[1]],[]⟩)] .n)) (.j ⟨[1],[O4 3],[[1]],[]⟩ .n (.j ⟨[],[O4 3],[],[]⟩ (.s .n (.l ⟨[1],[O4 3,A0 5],[[1]],[]⟩ [(3,⟨[],[O4 3],[],[]⟩)] (.s .n (.j ⟨[1,5],[O4 3],[[1]],[]⟩ (.s .n (.l ⟨[1,5],[O4 3,A0 6],[[1]],[]⟩ [(5,⟨[1,5],[O4 3],[[1]],[]⟩)] .n)) .n)))) .n)))))) [.s 99] [.k (.str)] (fun x=>Sy x.1) Tryz.func271 (by kernel_rfl)
def J0 (a0:Aa) (a1:Int):Option (Ae×Bool):=
 (L5 a0 a1).bind fun r1=>
 some (r1.1,r1.2)
def Sz:A9:=mC [ZW] 131 Tryz.f131 .n [.s 36, .k (.int .i64)] [.s 70, .k (.bool)] (fun x=>J0 x.1 x.2.1) Tryz.func131 (by kernel_rfl)
def MP (a0:Aa) (a1:Ae):Option (Bool):=
 (if a1.O_==5 then
  (JU a0 a1.Id).bind fun r2=>
  some (r2==1)
 else
  (DO a0 a1.O_ a1.p_).bind fun r3=>
  (LX r3 a1.Id).bind fun r4=>
  some (r4==1))
def jK:A9:=mC [jh,MM,VU] 93 Tryz.f93 (.s .n (.s .n (.s (.r [] [] (.t (.q 0 .lz (.q 5 .co .n)))) .n))) [.s 36, .s 70] [.k (.bool)] (fun x=>MP x.1 x.2.1) Tryz.func93 (by kernel_rfl)
def Wz:Option (Bool):=
 some true
def Ip (a0:List (AF)) (a1:List (AF)) (Y_:Int):Option ((Int)⊕(Unit⊕Bool)):=
 (if(decide (Y_<(a0.length:Int))) then
  (idx a0 Y_).bind fun e8=>
  (idx a1 Y_).bind fun e9=>
  (Sn e8 e9).bind fun r10=>
  (if !r10 then
   some (.inr (.inr false))
  else
   some (.inl (Ab (Y_+1))))
 else
  some (.inr (.inl ())))
def EV (a0:List (AF)) (a1:List (AF)):Option (Bool):=
 (if((a0.length:Int) != (a1.length:Int)) then
  some false
 else
  jn (fun(v:Unit)=>Wz) (fun jJ2=>
  (iter (fun(v:Int)=>Ip a0 a1 v) FU (0:Int)).bind (Sum.elim (fun o0=>jJ2 ()) (fun o1=>some o1))))
def Z1:A9:=mC [rh] 158 Tryz.f158 (.s .n (.s .n (.j EN (.s .n (.l ⟨[0,1],[A0 5],[],[]⟩ [(1,EN),(0,⟨[],[EO 4],[],[]⟩)] .n)) .n))) [.k (.u_ 180), .k (.u_ 180)] [.k (.bool)] (fun x=>EV x.1 x.2.1) Tryz.func158 (by kernel_rfl)
def nF (a0:AN) (aee:Int):Option (Bool):=
 (ZI a0).bind fun r21=>
 (if r21 then
  (some (if !a0.Token then a0.Keys==0 else false)).bind fun b23=>
  (some (if b23 then(a0.A_.length:Int)==1 else false)).bind fun b24=>
  (some (if b24 then aee==1 else false)).bind fun b25=>
  some b25
 else
  (gd ((aee==0)==true) (PU a0)).bind fun r26=>
  (some (if !r26 then true else a0.anB==(⟨0,0,(⟨0,0,0,0,0⟩:A5 (Int))⟩:AS))).bind fun b27=>
  (some (if aee==0 then b27 else false)).bind fun b28=>
  some b28)
def nG (a0:AN) (al6:Int) (aoT:Int):Option ((Int×Int)⊕(Int)):=
 (if(decide (aoT<(a0.A_.length:Int))) then
  (idx a0.A_ aoT).bind fun e36=>
  none
 else
  some (.inr al6))
def tp (a0:AN):Option (Bool):=
 (tj a0.Name).bind fun r1=>
 (gd ((!r1)==false) (tl a0.anB)).bind fun r2=>
 (some (if !r1 then true else !r2)).bind fun b3=>
 (gd (b3==false) (tn a0.aea)).bind fun r4=>
 (some (if b3 then true else !r4)).bind fun b5=>
 (gd (b5==false) (ZH a0.Keys)).bind fun r6=>
 (some (if b5 then true else !r6)).bind fun b7=>
 (gd (b7==false) (nf a0.Color)).bind fun r8=>
 (some (if b7 then true else !r8)).bind fun b9=>
 (if b9 then
  some false
 else
  (some (if decide (a0.Power<0) then true else decide (99<a0.Power))).bind fun b11=>
  (some (if b11 then true else decide (a0.acD<0))).bind fun b12=>
  (some (if b12 then true else decide (99<a0.acD))).bind fun b13=>
  (some (if a0.Power != 0 then true else a0.acD != 0)).bind fun b14=>
  (some (if((J9 .i64 a0.aea.Types (1:Int))==(0:Int)) then b14 else false)).bind fun b15=>
  (some (if b13 then true else b15)).bind fun b16=>
  (if b16 then
   some false
  else if(decide (8<(a0.A_.length:Int))) then
   some false
  else
   jn (fun(v:Int)=>nF a0 v) (fun aiH=>
   (iter (fun(v:Int×Int)=>nG a0 v.1 v.2) FU ((0:Int),(0:Int))).bind (fun o0=>aiH o0))))
def vU:A9:=mC [vP,vQ,vT,ji,qZ,jk,Wh] 98 Tryz.f98 (.s .n (.s .n (.s .n (.s .n (.s .n (.j ⟨[1],[A0 3],[[1]],[]⟩ (.s .n (.l ⟨[1,74,75],[A0 3,A0 76],[[1]],[]⟩ [(1,⟨[1],[A0 3],[[1]],[]⟩)] (.s .n (.s .n (.s (.s .n (.s .x .n)) .n))))) .n)))))) [.s 102] [.k (.bool)] (fun x=>tp x.1) Tryz.func98 (by kernel_rfl)
def WA (apF:Int) (apT:List (Int)):Option ((List (Int))×Int):=
 some (apT,apF)
def Bj (ajf:Int) (acn:Int) (abC:List (Int)):Option ((Int×Int×(List (Int)))⊕((Int×(List (Int))))):=
 (if decide (0<acn) then
  (Hp ajf (Ab (acn+1))).bind fun r17=>
  (idx abC r17.1).bind fun e18=>
  (idx abC r17.1).bind fun e19=>
  (idx abC acn).bind fun e20=>
  (idx abC acn).bind fun e21=>
  (idx abC acn).bind fun e22=>
  (idx abC acn).bind fun e24=>
  (some (abC.set (acn).toNat e19)).bind fun l23=>
  (idx l23 r17.1).bind fun e25=>
  (idx l23 r17.1).bind fun e27=>
  (some (l23.set (r17.1).toNat e21)).bind fun l26=>
  some (.inl (r17.2,(Ab (acn - 1)),l26))
 else
  some (.inr (ajf,abC)))
def DI (a0:Int) (a1:List (Int)):Option ((List (Int))×Int):=
 (Ao a1).bind fun r1=>
 jn (fun(v:Int×(List (Int)))=>WA v.1 v.2) (fun jJ4=>
 (iter (fun(v:Int×Int×(List (Int)))=>Bj v.1 v.2.1 v.2.2) FU (a0,(Ab ((r1.length:Int) - (1:Int))),r1)).bind (fun o0=>jJ4 (o0.1,o0.2)))
def OA:A9:=mC [BE,jE] 23 Tryz.f23 (.s .n (.s (.r [] [] (.q 1 .co .n)) (.j ⟨[6],[(0, .c (.v (.k (.int .u64))))],[],[([0,0,10], .row 3)]⟩ (.s .n (.l ⟨[6],[(0, .c (.v (.k (.int .u64)))),A0 7],[],[([0,0,10], .row 3)]⟩ [(1,⟨[6],[(0, .c (.v (.k (.int .u64))))],[],[([0,0,10], .row 3)]⟩)] (.s .n (.s (.s .n (.r [] [] (.t .n))) .n)))) .n))) [.k (.int .u64), .k (.u_ 3)] [.k (.u_ 3), .k (.int .u64)] (fun x=>DI x.1 x.2.1) Tryz.func23 (by kernel_rfl)
def PX (a0:Aa) (aah:Int) (V_:List (Ap)) (r5:(List (Ae))) (r6:(List (Int))) (r7:(List (Int))) (adZ:List (AE)) (agq:List (AA)) (amN:List (AY)):Option (Aa):=
 (Ao a0.Extra).bind fun r17=>
 (A1 (aah=((V_.length:Nat):Int))).bind fun _=>
 some (⟨V_,r5,r6,r7,adZ,agq,amN,a0.I_,a0.k_,a0.Step,a0.H_,a0.Priority,a0.Passes,a0.f_,a0.c_,a0.Tw,r17,a0.aae,a0.z_⟩:Aa)
def Lb (r14:(List (AY))) (abk:Int) (ab9:List (AY)):Option ((Int×(List (AY)))⊕((List (AY)))):=
 (if(decide (abk<(r14.length:Int))) then
  (idx ab9 abk).bind fun e26=>
  (idx ab9 abk).bind fun e27=>
  (Ao e27.b_).bind fun r28=>
  (idx ab9 abk).bind fun e29=>
  (idx ab9 abk).bind fun e31=>
  (some (ab9.set (abk).toNat ({e31 with b_:=r28}))).bind fun l30=>
  (idx l30 abk).bind fun e32=>
  (idx l30 abk).bind fun e33=>
  (AL e33.aai).bind fun r34=>
  (idx l30 abk).bind fun e35=>
  (idx l30 abk).bind fun e37=>
  (some (l30.set (abk).toNat ({e37 with aai:=r34}))).bind fun l36=>
  some (.inl ((Ab (abk+1)),l36))
 else
  some (.inr ab9))
def PY (a0:Aa) (aah:Int) (V_:List (Ap)) (r5:(List (Ae))) (r6:(List (Int))) (r7:(List (Int))) (adZ:List (AE)) (agq:List (AA)):Option (Aa):=
 (BH a0.v_).bind fun r14=>
 jn (fun(v:(List (AY)))=>PX a0 aah V_ r5 r6 r7 adZ agq v) (fun agU=>
 (iter (fun(v:Int×(List (AY)))=>Lb r14 v.1 v.2) FU ((0:Int),r14)).bind (fun o0=>agU o0))
def Lc (r11:(List (AA))) (aed:Int) (acG:List (AA)):Option ((Int×(List (AA)))⊕((List (AA)))):=
 (if(decide (aed<(r11.length:Int))) then
  (idx acG aed).bind fun e46=>
  (idx acG aed).bind fun e47=>
  (Dv e47.C_).bind fun r48=>
  (idx acG aed).bind fun e49=>
  (idx acG aed).bind fun e51=>
  (some (acG.set (aed).toNat ({e51 with C_:=r48}))).bind fun l50=>
  some (.inl ((Ab (aed+1)),l50))
 else
  some (.inr acG))
def PZ (a0:Aa) (aah:Int) (V_:List (Ap)) (r5:(List (Ae))) (r6:(List (Int))) (r7:(List (Int))) (adZ:List (AE)):Option (Aa):=
 (Bh a0.o_).bind fun r11=>
 jn (fun(v:(List (AA)))=>PY a0 aah V_ r5 r6 r7 adZ v) (fun arA=>
 (iter (fun(v:Int×(List (AA)))=>Lc r11 v.1 v.2) FU ((0:Int),r11)).bind (fun o0=>arA o0))
def Ld (r8:(List (AE))) (abZ:Int) (acH:List (AE)):Option ((Int×(List (AE)))⊕((List (AE)))):=
 (if(decide (abZ<(r8.length:Int))) then
  (idx acH abZ).bind fun e60=>
  (idx acH abZ).bind fun e61=>
  (Dv e61.C_).bind fun r62=>
  (idx acH abZ).bind fun e63=>
  (idx acH abZ).bind fun e65=>
  (some (acH.set (abZ).toNat ({e65 with C_:=r62}))).bind fun l64=>
  (idx l64 abZ).bind fun e66=>
  (idx l64 abZ).bind fun e67=>
  (Bs e67.aaF).bind fun r68=>
  (idx l64 abZ).bind fun e69=>
  (idx l64 abZ).bind fun e71=>
  (some (l64.set (abZ).toNat ({e71 with aaF:=r68}))).bind fun l70=>
  some (.inl ((Ab (abZ+1)),l70))
 else
  some (.inr acH))
def SA (a0:Aa) (aah:Int) (V_:List (Ap)):Option (Aa):=
 (Bq a0.b_).bind fun r5=>
 (Ao a0.l_).bind fun r6=>
 (Ao a0.T_).bind fun r7=>
 (BF a0.Stack).bind fun r8=>
 jn (fun(v:(List (AE)))=>PZ a0 aah V_ r5 r6 r7 v) (fun ajx=>
 (iter (fun(v:Int×(List (AE)))=>Ld r8 v.1 v.2) FU ((0:Int),r8)).bind (fun o0=>ajx o0))
def Le (r1:(List (Ap))) (adg:Int) (abv:Int) (aaB:List (Ap)):Option ((Int×Int×(List (Ap)))⊕((Int×(List (Ap))))):=
 (if(decide (adg<(r1.length:Int))) then
  (idx aaB adg).bind fun e83=>
  (idx aaB adg).bind fun e84=>
  (A1 (abv<=adg)).bind fun u85=>
  (Fu e84).bind fun r86=>
  (idx aaB adg).bind fun e87=>
  (idx aaB adg).bind fun e88=>
  (A1 (adg=abv)).bind fun u89=>
  (some (aaB.set (adg).toNat (⟨r86.afD,r86.ahw,r86.ahz,r86.ab7,r86.afE,r86.ahy,r86.g_,r86.Hand,r86.AT⟩:Ap))).bind fun l90=>
  some (.inl ((Ab (adg+1)),(abv+1),l90))
 else
  some (.inr (abv,aaB)))
def F8 (a0:Aa):Option (Aa):=
 (Bp a0.a_).bind fun r1=>
 jn (fun(v:Int×(List (Ap)))=>SA a0 v.1 v.2) (fun jJ4=>
 (iter (fun(v:Int×Int×(List (Ap)))=>Le r1 v.1 v.2.1 v.2.2) FU ((0:Int),(0:Int),r1)).bind (fun o0=>jJ4 (o0.1,o0.2)))
def KG:A9:=mX [Fb,So,Fc,BE,Gv,QV,Fe,Ez,Gy,Dt] 34 Tryz.f34 (.s .n (.s (.r [] [] (.q 2 .co (.g 3 (.dp 9) .n))) (.j ⟨[1,2],[],[[1],[2]],[([1000003,0,0,9], .deep 61)]⟩ (.s .n (.l ⟨[1,2,13],[A0 14],[[1],[2]],[([1000003,0,0,9], .deep 61)]⟩ [(1,⟨[1,2],[],[[1],[2]],[([1000003,0,0,9], .deep 61)]⟩)] (.s .n (.s .n (.s (.s .n (.r [] [] (.t (.q 8 .co (.q 10 .au .n))))) .n))))) (.s (.r [] [] (.q 2 .co .n)) (.s (.r [] [] (.q 2 .co .n)) (.s (.r [] [] (.q 2 .co .n)) (.s (.r [] [] (.q 2 .co .n)) (.j ⟨[1,2],[],[[1],[0,0,30],[0,0,34],[0,0,38],[2],[1000003,0,0,9]],[([0,0,42], .row 126)]⟩ (.s .n (.l ⟨[1,2,46],[A0 47],[[1],[0,0,30],[0,0,34],[0,0,38],[2],[1000003,0,0,9]],[([0,0,42], .row 126)]⟩ [(3,⟨[1,2],[],[[1],[0,0,30],[0,0,34],[0,0,38],[2],[1000003,0,0,9]],[([0,0,42], .row 126)]⟩)] (.s .n (.s .n (.s (.s .n (.s (.r [] [] (.t .n)) (.r [] [] (.t .n)))) .n))))) (.s (.r [] [] (.q 2 .co .n)) (.j ⟨[1,2],[],[[1],[0,0,30],[0,0,34],[0,0,38],[0,0,42],[2],[1000003,0,0,9]],[([0,0,77], .row 129)]⟩ (.s .n (.l ⟨[1,2,81],[A0 82],[[1],[0,0,30],[0,0,34],[0,0,38],[0,0,42],[2],[1000003,0,0,9]],[([0,0,77], .row 129)]⟩ [(5,⟨[1,2],[],[[1],[0,0,30],[0,0,34],[0,0,38],[0,0,42],[2],[1000003,0,0,9]],[([0,0,77], .row 129)]⟩)] (.s .n (.s .n (.s (.s .n (.r [] [] (.t .n))) .n))))) (.s (.r [] [] (.q 2 .co .n)) (.j ⟨[1,2],[],[[1],[0,0,30],[0,0,34],[0,0,38],[0,0,42],[0,0,77],[2],[1000003,0,0,9]],[([0,0,100], .row 132)]⟩ (.s .n (.l ⟨[1,2,104],[A0 105],[[1],[0,0,30],[0,0,34],[0,0,38],[0,0,42],[0,0,77],[2],[1000003,0,0,9]],[([0,0,100], .row 132)]⟩ [(7,⟨[1,2],[],[[1],[0,0,30],[0,0,34],[0,0,38],[0,0,42],[0,0,77],[2],[1000003,0,0,9]],[([0,0,100], .row 132)]⟩)] (.s .n (.s .n (.s (.s .n (.s (.r [] [] (.t .n)) (.r [] [] (.t .n)))) .n))))) (.s (.r [] [] (.q 2 .co .n)) .n))))))))))))) [[2,1,1,1,1,1,1,0,0,0,0,0,0,0,0,0,1,0,0]] [.s 36] [.s 36] (fun x=>F8 x.1) Tryz.func34 (by kernel_rfl)
def WB (aCD:List (Int)) (avt:List (Int)):Option ((List (Int))):=
 (app 8 avt aCD).bind fun l6=>
 some l6
def UC (agE:Int) (ax9:List (Int)) (ax7:List (Int)):Option ((Int×(List (Int))×(List (Int)))⊕(((List (Int))×(List (Int))))):=
 some (.inl ((Ab (agE+1)),ax9,ax7))
def UD (anX:Int) (r7:(List (Int))) (agE:Int) (ao2:List (Int)) (alj:List (Int)):Option ((Int×(List (Int))×(List (Int)))⊕(((List (Int))×(List (Int))))):=
 (if(decide (agE<(r7.length:Int))) then
  jn (fun(v:(List (Int))×(List (Int)))=>UC agE v.1 v.2) (fun aiG=>
  (idx r7 agE).bind fun e22=>
  (Nc e22 anX).bind fun r23=>
  (if(r23==(-1:Int)) then
   (app 8 ao2 ([e22]:List (Int))).bind fun l25=>
   aiG (l25,alj)
  else if r23==1 then
   (app 8 alj ([e22]:List (Int))).bind fun l27=>
   aiG (ao2,l27)
  else
   aiG (ao2,alj)))
 else
  some (.inr (ao2,alj)))
def WC (a0:Aa) (anX:Int):Option ((List (Int))):=
 jn (fun(v:(List (Int))×(List (Int)))=>WB v.1 v.2) (fun jJ5=>
 (MJ a0).bind fun r7=>
 (iter (fun(v:Int×(List (Int))×(List (Int)))=>UD anX r7 v.1 v.2.1 v.2.2) FU ((0:Int),([]:List (Int)),([]:List (Int)))).bind (fun o0=>jJ5 (o0.1,o0.2)))
def SB (a0:Aa) (a1:Int):Option ((List (Int))):=
 jn (fun(v:Int)=>WC a0 v) (fun jJ2=>
 (some (if decide (a1<0) then true else decide ((a0.a_.length:Int)<=a1))).bind fun b28=>
 (if b28 then
  jJ2 (-1:Int)
 else
  jJ2 a1))
def Z2:A9:=mC [Oo,Sq] 74 Tryz.f74 (.s .n (.j ⟨[2],[A0 1],[[2]],[]⟩ .n (.s .n (.j ⟨[],[(5, .c (.c (.n_ [5]))),(6, .c (.c (.n_ [6])))],[],[([5], .row 3),([6], .row 3)]⟩ (.s .n (.l ⟨[1,19,20],[(5, .c (.c (.n_ [5]))),(6, .c (.c (.n_ [6]))),A0 21],[],[([5], .row 3),([6], .row 3)]⟩ [(1,⟨[],[(5, .c (.c (.n_ [5]))),(6, .c (.c (.n_ [6])))],[],[([5], .row 3),([6], .row 3)]⟩)] (.s .n (.s .n (.j ⟨[1,19,20,21],[(5, .c (.c (.n_ [5]))),(6, .c (.c (.n_ [6])))],[],[([5], .row 3),([6], .row 3)]⟩ .n .n))))) .n)))) [.s 36, .k (.int .i64)] [.k (.u_ 3)] (fun x=>SB x.1 x.2.1) Tryz.func74 (by kernel_rfl)
def Z3:Option (Bool):=
 some true
def OB (a0:Ac) (a1:List (Int)) (aoS:Int):Option ((Int)⊕(Unit⊕Bool)):=
 (if(decide (aoS<(a1.length:Int))) then
  (idx a1 aoS).bind fun e7=>
  (some (if decide (e7<0) then true else decide ((a0.Options.length:Int)<=e7))).bind fun b8=>
  (gd (b8==false) (VW a1 e7)).bind fun r9=>
  (some (if b8 then true else r9 != aoS)).bind fun b10=>
  (if b10 then
   some (.inr (.inr false))
  else
   some (.inl (Ab (aoS+1))))
 else
  some (.inr (.inl ())))
def ED (a0:Ac) (a1:List (Int)):Option (Bool):=
 jn (fun(v:Unit)=>Z3) (fun jJ1=>
 (iter (fun(v:Int)=>OB a0 a1 v) FU (0:Int)).bind (Sum.elim (fun o0=>jJ1 ()) (fun o1=>some o1)))
def cH:A9:=mC [cB] 122 Tryz.f122 (.s .n (.j EN (.s .n (.l ⟨[1,2,7,8],[A0 9],[[2]],[]⟩ [(1,EN),(0,⟨[],[EO 4],[],[]⟩)] .n)) .n)) [.s 54, .k (.u_ 3)] [.k (.bool)] (fun x=>ED x.1 x.2.1) Tryz.func122 (by kernel_rfl)
def fN (a0:List (Int)) (a1:Int):Option (Bool):=
 (Dw a0 a1).bind fun r1=>
 some r1
def nH:A9:=mC [E7] 174 Tryz.f174 .n [.k (.u_ 3), .k (.int .i64)] [.k (.bool)] (fun x=>fN x.1 x.2.1) Tryz.func174 (by kernel_rfl)
def rm (r1:Aa) (apS:List (Ap)):Option (Aa):=
 some (⟨apS,r1.b_,r1.l_,r1.T_,r1.Stack,r1.o_,r1.v_,r1.I_,r1.k_,r1.Step,r1.H_,r1.Priority,r1.Passes,r1.f_,r1.c_,r1.Tw,r1.Extra,r1.aae,r1.z_⟩:Aa)
def IP (a0:Aa) (a1:Int) (a2:Int) (a3:List (Int)):Option (Aa):=
 (JY a0).bind fun r1=>
 (if a1==0 then
  (BU a3).bind fun r3=>
  some (⟨r1.a_,r1.b_,r3,r1.T_,r1.Stack,r1.o_,r1.v_,r1.I_,r1.k_,r1.Step,r1.H_,r1.Priority,r1.Passes,r1.f_,r1.c_,r1.Tw,r1.Extra,r1.aae,r1.z_⟩:Aa)
 else if a1==4 then
  (BU a3).bind fun r5=>
  some (⟨r1.a_,r1.b_,r1.l_,r5,r1.Stack,r1.o_,r1.v_,r1.I_,r1.k_,r1.Step,r1.H_,r1.Priority,r1.Passes,r1.f_,r1.c_,r1.Tw,r1.Extra,r1.aae,r1.z_⟩:Aa)
 else
  (some (if decide (a2<0) then true else decide ((r1.a_.length:Int)<=a2))).bind fun b6=>
  (if b6 then
   some (⟨r1.a_,r1.b_,r1.l_,r1.T_,r1.Stack,r1.o_,r1.v_,r1.I_,r1.k_,r1.Step,r1.H_,r1.Priority,r1.Passes,r1.f_,r1.c_,r1.Tw,r1.Extra,r1.aae,r1.z_⟩:Aa)
  else
   jn (fun(v:(List (Ap)))=>rm r1 v) (fun jJ9=>
   (if a1==1 then
    (BU a3).bind fun r11=>
    (idx r1.a_ a2).bind fun e12=>
    (idx r1.a_ a2).bind fun e14=>
    (some (r1.a_.set (a2).toNat ({e14 with Hand:=r11}))).bind fun l13=>
    jJ9 l13
   else if a1==2 then
    (BU a3).bind fun r16=>
    (idx r1.a_ a2).bind fun e17=>
    (idx r1.a_ a2).bind fun e19=>
    (some (r1.a_.set (a2).toNat ({e19 with g_:=r16}))).bind fun l18=>
    jJ9 l18
   else if a1==3 then
    (BU a3).bind fun r21=>
    (idx r1.a_ a2).bind fun e22=>
    (idx r1.a_ a2).bind fun e24=>
    (some (r1.a_.set (a2).toNat ({e24 with AT:=r21}))).bind fun l23=>
    jJ9 l23
   else
    jJ9 r1.a_))))
def UE:A9:=mC [MN,QQ] 130 Tryz.f130 (.s .n (.s (.r [] [] (.q 1 .co .n)) (.s (.s .n (.s .n (.i (.s (.r [] [] (.q 1 .co .n)) .n) (.s .n (.i (.s (.r [] [] (.q 1 .co .n)) .n) .n))))) (.s .n (.j ⟨[8,9],[],[[8],[9],[1,0,11],[2,0,11],[3,0,11],[4,0,11],[5,0,11],[6,0,11],[16,0,11]],[([0,0,11], .row 61)]⟩ (.s .n (.s .n (.i (.r [] [] (.t .n)) (.s .n (.i (.r [] [] (.t .n)) (.s .n (.i (.r [] [] (.t .n)) .n))))))) .n))))) [.s 36, .k (.int .i64), .k (.int .i64), .k (.u_ 3)] [.s 36] (fun x=>IP x.1 x.2.1 x.2.2.1 x.2.2.2.1) Tryz.func130 (by kernel_rfl)
def Z4 (a1:Ae) (r1:Aa) (apy:Int):Option (Aa):=
 (KS r1.b_ 0 apy).bind fun l9=>
 (app 128 ([]:List (Ae)) l9).bind fun l10=>
 (app 128 l10 ([a1]:List (Ae))).bind fun l11=>
 (KS r1.b_ apy (r1.b_.length:Int)).bind fun l12=>
 (app 128 l11 l12).bind fun l13=>
 some (⟨r1.a_,l13,r1.l_,r1.T_,r1.Stack,r1.o_,r1.v_,r1.I_,r1.k_,r1.Step,r1.H_,r1.Priority,r1.Passes,r1.f_,r1.c_,r1.Tw,r1.Extra,r1.aae,r1.z_⟩:Aa)
def OC (a1:Ae) (r1:Aa) (adB:Int):Option ((Int)⊕(Int)):=
 (gd ((decide (adB<(r1.b_.length:Int)))==true) (idx r1.b_ adB)).bind fun e18=>
 (gd ((decide (adB<(r1.b_.length:Int)))==true) (idx r1.b_ adB)).bind fun e19=>
 (some (if(decide (adB<(r1.b_.length:Int))) then decide (e19.Id<a1.Id)else false)).bind fun b20=>
 (if b20 then
  some (.inl (Ab (adB+1)))
 else
  some (.inr adB))
def Xe (a0:Aa) (a1:Ae):Option (Aa):=
 (JY a0).bind fun r1=>
 (Ja (⟨r1.a_,r1.b_,r1.l_,r1.T_,r1.Stack,r1.o_,r1.v_,r1.I_,r1.k_,r1.Step,r1.H_,r1.Priority,r1.Passes,r1.f_,r1.c_,r1.Tw,r1.Extra,r1.aae,r1.z_⟩:Aa) a1.Id).bind fun r2=>
 (if decide (0<=r2) then
  (idx r1.b_ r2).bind fun e4=>
  (idx r1.b_ r2).bind fun e6=>
  (some (r1.b_.set (r2).toNat a1)).bind fun l5=>
  some (⟨r1.a_,l5,r1.l_,r1.T_,r1.Stack,r1.o_,r1.v_,r1.I_,r1.k_,r1.Step,r1.H_,r1.Priority,r1.Passes,r1.f_,r1.c_,r1.Tw,r1.Extra,r1.aae,r1.z_⟩:Aa)
 else
  jn (fun(v:Int)=>Z4 a1 r1 v) (fun jJ8=>
  (iter (fun(v:Int)=>OC a1 r1 v) FU (0:Int)).bind (fun o0=>jJ8 o0)))
def vV:A9:=mC [MN,Oj] 178 Tryz.f178 (.s .n (.s (.r [] [] (.q 1 .co .n)) (.s .n (.s .n (.s .n (.j ⟨[3,4,5],[A0 7],[[3],[4],[5],[0,0,10],[1,0,10],[2,0,10],[3,0,10],[4,0,10],[5,0,10],[6,0,10],[16,0,10]],[]⟩ (.l ⟨[3,4,5],[A0 7],[[3],[4],[5],[0,0,10],[1,0,10],[2,0,10],[3,0,10],[4,0,10],[5,0,10],[6,0,10],[16,0,10]],[]⟩ [(1,⟨[3,4,5],[A0 7],[[3],[4],[5],[0,0,10],[1,0,10],[2,0,10],[3,0,10],[4,0,10],[5,0,10],[6,0,10],[16,0,10]],[]⟩)] .n) .n)))))) [.s 36, .s 70] [.s 36] (fun x=>Xe x.1 x.2.1) Tryz.func178 (by kernel_rfl)
def Z5 (apE:Int) (ayc:List (Int)):Option ((List (Int))×Int):=
 some (ayc,apE)
def Iq (aje:Int) (adI:Int) (aeV:List (Int)):Option ((Int×Int×(List (Int)))⊕((Int×(List (Int))))):=
 (if decide (1<=adI) then
  (UA aje (Ab (adI+1))).bind fun r19=>
  (idx aeV adI).bind fun e20=>
  (idx aeV adI).bind fun e21=>
  (idx aeV r19.1).bind fun e22=>
  (idx aeV r19.1).bind fun e23=>
  (idx aeV adI).bind fun e24=>
  (idx aeV adI).bind fun e26=>
  (some (aeV.set (adI).toNat e23)).bind fun l25=>
  (idx l25 r19.1).bind fun e27=>
  (idx l25 r19.1).bind fun e29=>
  (some (l25.set (r19.1).toNat e21)).bind fun l28=>
  some (.inl (r19.2,(Ab (adI - 1)),l28))
 else
  some (.inr (aje,aeV)))
def KH (a0:Int) (a1:List (Int)):Option ((List (Int))×Int):=
 (A1 (0<=(a1.length:Int)/\(a1.length:Int)<=(a1.length:Int)/\(a1.length:Int)*8<=140737488355328/\(a1.length:Int)<=maxLen)).bind fun u2=>
 (some (List.replicate ((a1.length:Int)).toNat (0:Int))).bind fun l1=>
 (A1 (a1.length=l1.length)).bind fun u3=>
 jn (fun(v:Int×(List (Int)))=>Z5 v.1 v.2) (fun jJ6=>
 (iter (fun(v:Int×Int×(List (Int)))=>Iq v.1 v.2.1 v.2.2) FU (a0,(Ab ((a1.length:Int) - (1:Int))),a1)).bind (fun o0=>jJ6 (o0.1,o0.2)))
def cI:A9:=mC [nE] 27 Tryz.f27 (.s .n (.s .n (.s (.r [] [] (.q 2 .cp .n)) (.j ⟨[6],[(0, .c (.v (.k (.int .u64))))],[],[([13], .row 3)]⟩ (.s .n (.l ⟨[6],[(0, .c (.v (.k (.int .u64)))),A0 7],[],[([13], .row 3)]⟩ [(1,⟨[6],[(0, .c (.v (.k (.int .u64))))],[],[([13], .row 3)]⟩)] .n)) .n)))) [.k (.int .u64), .k (.u_ 3)] [.k (.u_ 3), .k (.int .u64)] (fun x=>KH x.1 x.2.1) Tryz.func27 (by kernel_rfl)
def cJ (avt:List (Int)):Option ((List (Int))):=
 some avt
def Z6 (ahP:Int) (alj:List (Int)):Option ((Int×(List (Int)))⊕((List (Int)))):=
 some (.inl ((Ab (ahP+1)),alj))
def Z7 (a0:Aa) (a1:Int) (r1:(List (Int))) (ahP:Int) (arf:List (Int)):Option ((Int×(List (Int)))⊕((List (Int)))):=
 (if(decide (ahP<(r1.length:Int))) then
  jn (fun(v:(List (Int)))=>Z6 ahP v) (fun aeh=>
  (Cx a0 a1).bind fun r16=>
  (gd ((!r16)==false) (idx r1 ahP)).bind fun e17=>
  (some (if !r16 then true else decide (e17<a1))).bind fun b18=>
  (if b18 then
   (idx r1 ahP).bind fun e20=>
   (app 8 arf ([e20]:List (Int))).bind fun l21=>
   aeh l21
  else
   aeh arf))
 else
  some (.inr arf))
def cK (a0:Aa) (a1:Int) (r1:(List (Int))) (aCC:List (Int)):Option ((List (Int))):=
 jn (fun(v:(List (Int)))=>cJ v) (fun jJ5=>
 (iter (fun(v:Int×(List (Int)))=>Z7 a0 a1 r1 v.1 v.2) FU ((0:Int),aCC)).bind (fun o0=>jJ5 o0))
def Z8 (afP:Int) (ax6:List (Int)):Option ((Int×(List (Int)))⊕((List (Int)))):=
 some (.inl ((Ab (afP+1)),ax6))
def Z9 (a0:Aa) (a1:Int) (r1:(List (Int))) (afP:Int) (are:List (Int)):Option ((Int×(List (Int)))⊕((List (Int)))):=
 (if(decide (afP<(r1.length:Int))) then
  jn (fun(v:(List (Int)))=>Z8 afP v) (fun arv=>
  (Cx a0 a1).bind fun r32=>
  (gd (r32==true) (idx r1 afP)).bind fun e33=>
  (some (if r32 then decide (a1<e33)else false)).bind fun b34=>
  (if b34 then
   (idx r1 afP).bind fun e36=>
   (app 8 are ([e36]:List (Int))).bind fun l37=>
   arv l37
  else
   arv are))
 else
  some (.inr are))
def MQ (a0:Aa) (a1:Int):Option ((List (Int))):=
 (ZP a0).bind fun r1=>
 jn (fun(v:(List (Int)))=>cK a0 a1 r1 v) (fun jJ3=>
 (iter (fun(v:Int×(List (Int)))=>Z9 a0 a1 r1 v.1 v.2) FU ((0:Int),([]:List (Int)))).bind (fun o0=>jJ3 o0))
def jL:A9:=mC [jy,II] 42 Tryz.f42 (.s .n (.s .n (.s .n (.j ⟨[1,2,5],[(6, .c (.c (.n_ [6])))],[[2]],[([6], .row 3)]⟩ (.s .n (.l ⟨[1,2,5],[(6, .c (.c (.n_ [6]))),A0 7],[[2]],[([6], .row 3)]⟩ [(1,⟨[1,2,5],[(6, .c (.c (.n_ [6])))],[[2]],[([6], .row 3)]⟩)] (.s .n (.j ⟨[1,2,5,7],[(6, .c (.c (.n_ [6])))],[[2]],[([6], .row 3)]⟩ .n .n)))) (.j ⟨[],[(6, .c (.c (.n_ [6])))],[],[([6], .row 3)]⟩ (.s .n (.l ⟨[1,2,5],[(6, .c (.c (.n_ [6]))),A0 8],[[2]],[([6], .row 3)]⟩ [(3,⟨[],[(6, .c (.c (.n_ [6])))],[],[([6], .row 3)]⟩)] (.s .n (.j ⟨[1,2,5,8],[(6, .c (.c (.n_ [6])))],[[2]],[([6], .row 3)]⟩ .n .n)))) .n))))) [.s 36, .k (.int .i64)] [.k (.u_ 3)] (fun x=>MQ x.1 x.2.1) Tryz.func42 (by kernel_rfl)
end Go.PL
