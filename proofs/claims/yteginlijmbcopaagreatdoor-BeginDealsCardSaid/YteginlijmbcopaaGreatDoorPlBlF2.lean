/- Functions of the program, as partial functions in Lean, with proofs. -/
import Derived.Test.YteginlijmbcopaaGreatDoorPlBlB
import Derived.Test.YteginlijmbcopaaGreatDoorPlBlF0
import Derived.Test.YteginlijmbcopaaGreatDoorPlBlF1
namespace Go.PL
open Go Go.RowKit Go.Proofs
set_option maxRecDepth 100000
set_option linter.all false
set_option maxHeartbeats 4000000
attribute [local irreducible] Aq Cr Cc
def fM:Option (Bool):=
 some true
def JX (a0:List UInt8) (acO:Int):Option ((Int)⊕(Unit⊕Bool)):=
 (if(decide (acO<(a0.length:Int))) then
  (acT a0 acO).bind fun c14=>
  (RX c14).bind fun r15=>
  (gd ((!r15)==true) (acT a0 acO)).bind fun c16=>
  (gd (((!r15)==true)&&((decide (c16<48))==false)) (acT a0 acO)).bind fun c17=>
  (some (if decide (c16<48) then true else decide (57<c17))).bind fun b18=>
  (some (if !r15 then b18 else false)).bind fun b19=>
  (gd (b19==true) (acT a0 acO)).bind fun c20=>
  (some (if b19 then c20 != 45 else false)).bind fun b21=>
  (if b21 then
   some (.inr (.inr false))
  else
   (gd ((decide (0<acO))==true) (acT a0 acO)).bind fun c23=>
   (some (if decide (0<acO) then c23==45 else false)).bind fun b24=>
   (gd (b24==true) (acT a0 (Ab (acO - 1)))).bind fun c25=>
   (some (if b24 then c25==45 else false)).bind fun b26=>
   (if b26 then
    some (.inr (.inr false))
   else
    some (.inl (Ab (acO+1)))))
 else
  some (.inr (.inl ())))
def Uz (a0:List UInt8):Option (Bool):=
 (some (if(decide ((a0.length:Int)<1)) then true else decide (32<(a0.length:Int)))).bind fun b1=>
 (gd (b1==false) (acT a0 (0:Int))).bind fun c2=>
 (gd (b1==false) (RX c2)).bind fun r3=>
 (some (if b1 then true else !r3)).bind fun b4=>
 (gd (b4==false) (acT a0 (Ab ((a0.length:Int) - (1:Int))))).bind fun c5=>
 (some (if b4 then true else c5==45)).bind fun b6=>
 (if b6 then
  some false
 else
  jn (fun(v:Unit)=>fM) (fun jJ8=>
  (iter (fun(v:Int)=>JX a0 v) FU (0:Int)).bind (Sum.elim (fun o0=>jJ8 ()) (fun o1=>some o1))))
def ZR:A9:=mC [vK] 105 Tryz.f105 (.s .n (.s .n (.j EN (.s .n (.l ⟨[0],[A0 3],[],[]⟩ [(1,EN),(0,⟨[],[EO 2],[],[]⟩)] .n)) .n))) [.k (.str)] [.k (.bool)] (fun x=>Uz x.1) Tryz.func105 (by kernel_rfl)
def cy (au0:List UInt8):Option ((List UInt8)):=
 some au0
def ZS (ae2:Int) (asT:List UInt8):Option (((List UInt8)×Int)⊕((List UInt8))):=
 some (.inl (asT,(Ab (ae2+1))))
def ZT (a0:List (List UInt8)) (ae2:Int) (ad1:((List UInt8))->Option (((List UInt8)×Int)⊕((List UInt8)))) (asS:List UInt8):Option (((List UInt8)×Int)⊕((List UInt8))):=
 (idx a0 ae2).bind fun e16=>
 (cat asS e16).bind fun s17=>
 ad1 s17
def cz (a0:List (List UInt8)) (a1:Int) (a2:List UInt8) (ajg:List UInt8) (ae2:Int):Option (((List UInt8)×Int)⊕((List UInt8))):=
 (if(decide (ae2<(a0.length:Int))) then
  jn (fun(v:(List UInt8))=>ZS ae2 v) (fun ad1=>
  (Kx a1 ae2).bind fun r12=>
  (if r12 then
   jn (fun(v:(List UInt8))=>ZT a0 ae2 ad1 v) (fun aeh=>
   (if(ajg != ([]:List UInt8)) then
    (cat ajg a2).bind fun s19=>
    aeh s19
   else
    aeh ajg))
  else
   ad1 ajg))
 else
  some (.inr ajg))
def ZU (a0:List (List UInt8)) (a1:Int) (a2:List UInt8):Option ((List UInt8)):=
 jn (fun(v:(List UInt8))=>cy v) (fun jJ2=>
 (iter (fun(v:(List UInt8)×Int)=>cz a0 a1 a2 v.1 v.2) FU (([]:List UInt8),(0:Int))).bind (fun o0=>jJ2 o0))
def jz:A9:=mC [fE] 232 Tryz.f232 (.s .n (.s .n (.j ⟨[],[O4 7],[],[]⟩ (.s .n (.l ⟨[0,1,2],[O4 7,A0 8],[],[]⟩ [(1,⟨[],[O4 7],[],[]⟩)] (.s .n (.j ⟨[0,1,2,8],[O4 7],[],[]⟩ (.s .n (.i (.j ⟨[0,1,2,8],[O4 7],[],[]⟩ .n .n) .n)) .n)))) .n))) [.k (.u_ 9), .k (.int .i64), .k (.str)] [.k (.str)] (fun x=>ZU x.1 x.2.1 x.2.2.1) Tryz.func232 (by kernel_rfl)
def nq (aq6:List UInt8):Option ((List UInt8)):=
 some aq6
def jA (adQ:Int) (apM:List UInt8):Option (((List UInt8)×Int)⊕((List UInt8))):=
 some (.inl (apM,(Ab (adQ+1))))
def jB (adQ:Int) (aiI:((List UInt8))->Option (((List UInt8)×Int)⊕((List UInt8)))) (apK:List UInt8):Option (((List UInt8)×Int)⊕((List UInt8))):=
 (Oc adQ).bind fun r20=>
 (cat apK r20).bind fun s21=>
 aiI s21
def jC (a0:Int) (aeR:List UInt8) (adQ:Int):Option (((List UInt8)×Int)⊕((List UInt8))):=
 (if decide (adQ<5) then
  jn (fun(v:(List UInt8))=>jA adQ v) (fun aiI=>
  (A1 (0<=adQ)).bind fun u15=>
  (A1 ((Ab ((1:Int)*2 ^ (min (adQ).toNat (IntKind.i64).bits))) ≠ 0)).bind fun u16=>
  (if((Int.tmod (Ab (Int.tdiv a0 (Ab ((1:Int)*2 ^ (min (adQ).toNat (IntKind.i64).bits))))) (2:Int))==(1:Int)) then
   jn (fun(v:(List UInt8))=>jB adQ aiI v) (fun amb=>
   (if(aeR != ([]:List UInt8)) then
    (cat aeR Xc).bind fun s23=>
    amb s23
   else
    amb aeR))
  else
   aiI aeR))
 else
  some (.inr aeR))
def L4 (a0:Int):Option ((List UInt8)):=
 (jb a0).bind fun r1=>
 (if !r1 then
  some ([]:List UInt8)
 else if a0==0 then
  some my
 else
  jn (fun(v:(List UInt8))=>nq v) (fun jJ5=>
  (iter (fun(v:(List UInt8)×Int)=>jC a0 v.1 v.2) FU (([]:List UInt8),(0:Int))).bind (fun o0=>jJ5 o0)))
def rc:A9:=mC [yE,Zv] 196 Tryz.f196 (.s .n (.s .n (.s .n (.s .n (.j ⟨[],[O4 3],[],[]⟩ (.s .n (.l ⟨[0],[O4 3,A0 4],[],[]⟩ [(1,⟨[],[O4 3],[],[]⟩)] (.s .n (.j ⟨[0,4],[O4 3],[],[]⟩ (.s .n (.i (.j ⟨[0,4],[O4 3],[],[]⟩ .n .n) .n)) .n)))) .n))))) [.k (.int .i64)] [.k (.str)] (fun x=>L4 x.1) Tryz.func196 (by kernel_rfl)
def Sm (a0:Int):Option ((List UInt8)):=
 (some (if decide (a0<0) then true else decide (16<a0))).bind fun b1=>
 (if b1 then
  some ([]:List UInt8)
 else
  (fF).bind fun r3=>
  (idx r3 a0).bind fun e4=>
  some e4)
def ZV:A9:=mC [mW] 235 Tryz.f235 .n [.k (.int .i64)] [.k (.str)] (fun x=>Sm x.1) Tryz.func235 (by kernel_rfl)
def Du (a0:Int):Option ((List UInt8)):=
 (if decide (a0<0) then
  (JR (IntKind.u64.wrap (0 - (IntKind.u64.wrap (a0))))).bind fun r2=>
  (cat Abz r2).bind fun s3=>
  some s3
 else
  (JR (IntKind.u64.wrap (a0))).bind fun r4=>
  some r4)
def QU:A9:=mC [amC] 199 Tryz.f199 .n [.k (.int .i64)] [.k (.str)] (fun x=>Du x.1) Tryz.func199 (by kernel_rfl)
def Pf (a0:CC):Option (Bool):=
 (Uo a0.aqG).bind fun r1=>
 (some (if r1 then a0.aqG.X==0 else false)).bind fun b2=>
 (some (if b2 then decide (0<=a0.afD)else false)).bind fun b3=>
 (some (if b3 then decide (a0.afD<=99)else false)).bind fun b4=>
 some b4
def nr:A9:=mC [Zt] 138 Tryz.f138 .n [.s 113] [.k (.bool)] (fun x=>Pf x.1) Tryz.func138 (by kernel_rfl)
def K5 (a0:Int):Option (Bool):=
 (Od a0).bind fun r1=>
 (gd ((r1 != ([]:List UInt8))==true) (JS a0)).bind fun r2=>
 (some (if !r2 then true else a0==9)).bind fun b3=>
 (some (if(r1 != ([]:List UInt8)) then b3 else false)).bind fun b4=>
 some b4
def Wu:A9:=mC [Zz,R4] 187 Tryz.f187 .n [.k (.int .i64)] [.k (.bool)] (fun x=>K5 x.1) Tryz.func187 (by kernel_rfl)
def nt:Option (Bool):=
 some false
def VV (a1:Int) (r1:(List UInt8)) (aoe:Int):Option ((Int)⊕(Unit⊕Bool)):=
 (if(decide (aoe<(r1.length:Int))) then
  (acT r1 aoe).bind fun c8=>
  (if c8==a1 then
   some (.inr (.inr true))
  else
   some (.inl (Ab (aoe+1))))
 else
  some (.inr (.inl ())))
def DM (a0:Int) (a1:Int):Option (Bool):=
 (R6 a0).bind fun r1=>
 jn (fun(v:Unit)=>nt) (fun jJ2=>
 (iter (fun(v:Int)=>VV a1 r1 v) FU (0:Int)).bind (Sum.elim (fun o0=>jJ2 ()) (fun o1=>some o1)))
def rf:A9:=mC [qR] 225 Tryz.f225 (.s .n (.s .n (.j EN (.s .n (.l ⟨[1,5],[A0 6],[],[]⟩ [(1,EN),(0,⟨[],[EO 4],[],[]⟩)] .n)) .n))) [.k (.int .i64), .k (.int .u8)] [.k (.bool)] (fun x=>DM x.1 x.2.1) Tryz.func225 (by kernel_rfl)
def Ot:Option (Bool):=
 some true
def Ou (F_:Int):Option ((Int)⊕(Unit⊕Bool)):=
 some (.inl (Ab (F_+1)))
def DN (a0:List (AN)) (a1:AN) (F_:Int) (ags:Int):Option ((Int)⊕(Unit⊕Bool)):=
 (idx a1.A_ F_).bind fun e12=>
 (if(decide (ags<(e12.w_.length:Int))) then
  (idx a1.A_ F_).bind fun e14=>
  (idx e14.w_ ags).bind fun e15=>
  (gd ((e15.Op==12)==true) (Pd a0 e15.aag)).bind fun r16=>
  (some (if e15.Op==12 then !r16 else false)).bind fun b17=>
  (if b17 then
   some (.inr (.inr false))
  else
   some (.inl (Ab (ags+1))))
 else
  some (.inr (.inl ())))
def EB (a0:List (AN)) (a1:AN) (F_:Int):Option ((Int)⊕(Unit⊕Bool)):=
 (if(decide (F_<(a1.A_.length:Int))) then
  jn (fun(v:Unit)=>Ou F_) (fun jJ7=>
  (iter (fun(v:Int)=>DN a0 a1 F_ v) FU (0:Int)).bind (Sum.elim (fun o0=>jJ7 ()) (fun o1=>some (.inr (.inr o1)))))
 else
  some (.inr (.inl ())))
def KD (a0:List (AN)) (a1:AN):Option (Bool):=
 jn (fun(v:Unit)=>Ot) (fun jJ1=>
 (iter (fun(v:Int)=>EB a0 a1 v) FU (0:Int)).bind (Sum.elim (fun o0=>jJ1 ()) (fun o1=>some o1)))
def cA:A9:=mC [m7] 64 Tryz.f64 (.s .n (.j EN (.s .n (.l ⟨[0,3],[A0 5],[[3]],[]⟩ [(1,EN),(0,⟨[],[EO 4],[],[]⟩)] (.s .n (.j ⟨[0,3,5],[],[[3]],[]⟩ (.s .n (.l ⟨[0,3,5],[A0 6],[[3]],[]⟩ [(3,⟨[0,3,5],[],[[3]],[]⟩),(0,⟨[],[EO 4],[],[]⟩)] .n)) .n)))) .n)) [.k (.u_ 102), .s 102] [.k (.bool)] (fun x=>KD x.1 x.2.1) Tryz.func64 (by kernel_rfl)
def L5 (a0:Aa) (a1:Int):Option (Ae×Bool):=
 (Ja a0 a1).bind fun r1=>
 (if decide (r1<0) then
  some ((⟨0,0,0,0,0,false,false,false,false,0,(⟨0,0,0⟩:A3 (Int)),0,0,0,false,0,0⟩:Ae),false)
 else
  (idx a0.b_ r1).bind fun e3=>
  some (e3,true))
def ZW:A9:=mC [Oj] 175 Tryz.f175 .n [.s 36, .k (.int .i64)] [.s 70, .k (.bool)] (fun x=>L5 x.1 x.2.1) Tryz.func175 (by kernel_rfl)
def Cx (a0:Aa) (a1:Int):Option (Bool):=
 (Eu a1 (0:Int) (Ab ((a0.a_.length:Int) - (1:Int)))).bind fun r1=>
 some r1
def II:A9:=mC [Oi] 51 Tryz.f51 .n [.s 36, .k (.int .i64)] [.k (.bool)] (fun x=>Cx x.1 x.2.1) Tryz.func51 (by kernel_rfl)
def jD (a0:Ae) (a1:Int) (a2:Int):Option (Bool):=
 (some (if decide (a0.Id<1) then true else decide (a0.aag<0))).bind fun b1=>
 (some (if b1 then true else decide (a1<=a0.aag))).bind fun b2=>
 (some (if b2 then true else decide (a0.p_<0))).bind fun b3=>
 (some (if b3 then true else decide (a2<=a0.p_))).bind fun b4=>
 (some (if b4 then true else decide (a0.Control<0))).bind fun b5=>
 (some (if b5 then true else decide (a2<=a0.Control))).bind fun b6=>
 (some (if b6 then true else decide (a0.O_<0))).bind fun b7=>
 (some (if b7 then true else decide (5<a0.O_))).bind fun b8=>
 (if b8 then
  some false
 else
  (some (if decide (a0.aky<0) then true else decide (1000000<a0.aky))).bind fun b10=>
  (some (if b10 then true else decide (a0.adf<0))).bind fun b11=>
  (some (if b11 then true else decide (1000000<a0.adf))).bind fun b12=>
  (some (if b12 then true else decide (a0.akz<0))).bind fun b13=>
  (some (if b13 then true else decide (1000000<a0.akz))).bind fun b14=>
  (some (if b14 then true else decide (a0.akx<0))).bind fun b15=>
  (some (if b15 then true else decide (1000000<a0.akx))).bind fun b16=>
  (if b16 then
   some false
  else
   (jg a0.Counters).bind fun r18=>
   (some (if !r18 then true else decide (a0.alc<(-1:Int)))).bind fun b19=>
   (some (if b19 then true else decide (a1<=a0.alc))).bind fun b20=>
   (some (if b20 then true else decide (a0.akA<(-1:Int)))).bind fun b21=>
   (some (if b21 then true else decide (a2<=a0.akA))).bind fun b22=>
   (if b22 then
    some false
   else
    (gd ((a0.O_==0)==false) (ZE a0)).bind fun r24=>
    (gd (((a0.O_==0)==false)&&((a0==r24)==true)) (Uq a0)).bind fun r25=>
    (some (if a0==r24 then a0==r25 else false)).bind fun b26=>
    (some (if b26 then !a0.ah4 else false)).bind fun b27=>
    (some (if b27 then !a0.asm else false)).bind fun b28=>
    (some (if b28 then a0.Counters==(⟨0,0,0⟩:A3 (Int))else false)).bind fun b29=>
    (some (if a0.O_==0 then true else b29)).bind fun b30=>
    some b30)))
def yH:A9:=mC [yF,qV,m9] 92 Tryz.f92 .n [.s 70, .k (.int .i64), .k (.int .i64)] [.k (.bool)] (fun x=>jD x.1 x.2.1 x.2.2.1) Tryz.func92 (by kernel_rfl)
def DO (a0:Aa) (a1:Int) (a2:Int):Option ((List (Int))):=
 (if a1==0 then
  (BU a0.l_).bind fun r2=>
  some r2
 else if a1==4 then
  (BU a0.T_).bind fun r4=>
  some r4
 else
  (some (if decide (a2<0) then true else decide ((a0.a_.length:Int)<=a2))).bind fun b5=>
  (if b5 then
   some ([]:List (Int))
  else if a1==1 then
   (idx a0.a_ a2).bind fun e8=>
   (BU e8.Hand).bind fun r9=>
   some r9
  else if a1==2 then
   (idx a0.a_ a2).bind fun e11=>
   (BU e11.g_).bind fun r12=>
   some r12
  else if a1==3 then
   (idx a0.a_ a2).bind fun e14=>
   (BU e14.AT).bind fun r15=>
   some r15
  else
   some ([]:List (Int))))
def MM:A9:=mX [QQ] 129 Tryz.f129 (.s .n (.s (.s .n (.s .n (.i (.s (.r [] [] (.q 2 .co .n)) .n) (.s .n (.i (.s (.r [] [] (.q 2 .co .n)) .n) .n))))) (.s .n (.s (.s .n (.s .n (.i (.s (.r [] [] (.q 6 .co .n)) .n) (.s .n (.i (.s (.r [] [] (.q 6 .co .n)) .n) (.s .n (.i (.s (.r [] [] (.q 6 .co .n)) .n) .n))))))) .n)))) [[1]] [.s 36, .k (.int .i64), .k (.int .i64)] [.k (.u_ 3)] (fun x=>DO x.1 x.2.1 x.2.2.1) Tryz.func129 (by kernel_rfl)
def Sn (a0:AF) (a1:AF):Option (Bool):=
 (some (if a0.Op==a1.Op then a0.Ref==a1.Ref else false)).bind fun b1=>
 (some (if b1 then a0.adD==a1.adD else false)).bind fun b2=>
 (some (if b2 then a0.R_==a1.R_ else false)).bind fun b3=>
 (some (if b3 then a0.O_==a1.O_ else false)).bind fun b4=>
 (some (if b4 then a0.aag==a1.aag else false)).bind fun b5=>
 (some (if b5 then a0.Filter==a1.Filter else false)).bind fun b6=>
 (some (if b6 then a0.ab7==a1.ab7 else false)).bind fun b7=>
 (gd (b7==true) (DG a0.aai a1.aai)).bind fun r8=>
 (some (if b7 then r8 else false)).bind fun b9=>
 some b9
def rh:A9:=mC [Ol] 211 Tryz.f211 .n [.s 180, .s 180] [.k (.bool)] (fun x=>Sn x.1 x.2.1) Tryz.func211 (by kernel_rfl)
def ri:Option (Bool):=
 some true
def ny (a0:JN) (aoU:Int):Option ((Int)⊕(Unit)):=
 (if(decide (aoU<(a0.afB.length:Int))) then
  (idx a0.afB aoU).bind fun e13=>
  none
 else
  some (.inr ()))
def tn (a0:JN):Option (Bool):=
 (some (if decide (a0.agi<0) then true else decide (3<a0.agi))).bind fun b1=>
 (some (if b1 then true else decide (a0.Types<1))).bind fun b2=>
 (some (if b2 then true else decide (63<a0.Types))).bind fun b3=>
 (gd (b3==false) (PT a0.Types)).bind fun r4=>
 (some (if b3 then true else !r4)).bind fun b5=>
 (some (if b5 then true else decide (4<(a0.afB.length:Int)))).bind fun b6=>
 (if b6 then
  some false
 else
  jn (fun(v:Unit)=>ri) (fun jJ8=>
  (iter (fun(v:Int)=>ny a0 v) FU (0:Int)).bind (fun o0=>jJ8 ())))
def vT:A9:=mC [Wg] 147 Tryz.f147 (.s .n (.s .n (.j EN (.s .n (.l ⟨[1,36,37],[A0 38],[[1]],[]⟩ [(1,EN)] (.s .n (.s .n (.s (.s .n .x) .n))))) .n))) [.s 96] [.k (.bool)] (fun x=>tn x.1) Tryz.func147 (by kernel_rfl)
def Hp (a0:Int) (a1:Int):Option (Int×Int):=
 (if decide (a1<1) then
  some ((0:Int),a0)
 else
  (Uu a0).bind fun r2=>
  (A1 ((IntKind.u64.wrap (a1)) ≠ 0)).bind fun u3=>
  some (Ab (Int.tmod r2.1 (IntKind.u64.wrap (a1))),r2.2))
def jE:A9:=mC [nh] 56 Tryz.f56 .n [.k (.int .u64), .k (.int .i64)] [.k (.int .i64), .k (.int .u64)] (fun x=>Hp x.1 x.2.1) Tryz.func56 (by kernel_rfl)
def Fu (a0:Ap):Option (Ap):=
 (Ao a0.g_).bind fun r1=>
 (Ao a0.Hand).bind fun r2=>
 (Ao a0.AT).bind fun r3=>
 some (⟨a0.afD,a0.ahw,a0.ahz,a0.ab7,a0.afE,a0.ahy,r1,r2,r3⟩:Ap)
def So:A9:=mX [BE] 66 Tryz.f66 (.s .n (.s (.r [] [] (.q 2 .co .n)) (.s (.r [] [] (.q 2 .co .n)) (.s (.r [] [] (.q 2 .co .n)) .n)))) [[0,0,0,0,0,0,0,0,0,0,0,1,1,1]] [.s 61] [.s 61] (fun x=>Fu x.1) Tryz.func66 (by kernel_rfl)
def Py (a0:AG) (r1:(List (BB))) (r2:(List (C8))) (apR:List (AF)):Option (AG):=
 some (⟨a0.Kind,a0.Filter,r1,a0.afC,a0.alb,a0.acv,a0.May,r2,apR,a0.Replace⟩:AG)
def EC (r3:(List (AF))) (agk:Int) (acI:List (AF)):Option ((Int×(List (AF)))⊕((List (AF)))):=
 (if(decide (agk<(r3.length:Int))) then
  (idx acI agk).bind fun e14=>
  (idx acI agk).bind fun e15=>
  (AL e15.aai).bind fun r16=>
  (idx acI agk).bind fun e17=>
  (idx acI agk).bind fun e19=>
  (some (acI.set (agk).toNat ({e19 with aai:=r16}))).bind fun l18=>
  some (.inl ((Ab (agk+1)),l18))
 else
  some (.inr acI))
def Dv (a0:AG):Option (AG):=
 (AL a0.aai).bind fun r1=>
 (BG a0.acg).bind fun r2=>
 (Br a0.w_).bind fun r3=>
 jn (fun(v:(List (AF)))=>Py a0 r1 r2 v) (fun jJ5=>
 (iter (fun(v:Int×(List (AF)))=>EC r3 v.1 v.2) FU ((0:Int),r3)).bind (fun o0=>jJ5 o0))
def QV:A9:=mC [Dt,Gx,Fd] 69 Tryz.f69 (.s .n (.s (.r [] [] (.q 2 .co .n)) (.s (.r [] [] (.q 2 .co .n)) (.s (.r [] [] (.q 2 .co .n)) (.j ⟨[1,2],[],[[1],[0,0,6],[0,0,10],[2]],[([0,0,14], .row 180)]⟩ (.s .n (.l ⟨[1,2,18],[A0 19],[[1],[0,0,6],[0,0,10],[2]],[([0,0,14], .row 180)]⟩ [(1,⟨[1,2],[],[[1],[0,0,6],[0,0,10],[2]],[([0,0,14], .row 180)]⟩)] (.s .n (.s .n (.s (.s .n (.r [] [] (.t .n))) .n))))) .n))))) [.s 121] [.s 121] (fun x=>Dv x.1) Tryz.func69 (by kernel_rfl)
def Nc (a0:Int) (a1:Int):Option (Int):=
 (K3 a0).bind fun r1=>
 (K3 a1).bind fun r2=>
 (if r1 then
  (if r2 then
   some (0:Int)
  else
   some (-1:Int))
 else if r2 then
  some (1:Int)
 else if decide (a0<a1) then
  some (-1:Int)
 else if decide (a1<a0) then
  some (1:Int)
 else
  some (0:Int))
def Sq:A9:=mC [Wp] 114 Tryz.f114 .n [.k (.int .i64), .k (.int .i64)] [.k (.int .i64)] (fun x=>Nc x.1 x.2.1) Tryz.func114 (by kernel_rfl)
def Dw (a0:List (Int)) (a1:Int):Option (Bool):=
 (EA a0 a1).bind fun r1=>
 some (decide (0<=r1))
def E7:A9:=mC [Gz] 75 Tryz.f75 .n [.k (.u_ 3), .k (.int .i64)] [.k (.bool)] (fun x=>Dw x.1 x.2.1) Tryz.func75 (by kernel_rfl)
def jF:Option ((List (Int))):=
 some ([]:List (Int))
def DU (a0:Aa) (a1:Int) (a2:Int):Option ((List (Int))):=
 jn (fun(v:Unit)=>jF) (fun jJ1=>
 (if a1==0 then
  none
 else if a1==4 then
  none
 else
  (some (if decide (a2<0) then true else decide ((a0.a_.length:Int)<=a2))).bind fun b4=>
  (if b4 then
   none
  else
   (idx a0.a_ a2).bind fun e6=>
   (if a1==1 then
    (if true then
     (Ao e6.Hand).bind fun r9=>
     some r9
    else
     jJ1 ())
   else if a1==2 then
    (if true then
     (Ao e6.g_).bind fun r12=>
     some r12
    else
     jJ1 ())
   else if a1==3 then
    none
   else
    none))))
def KE:A9:=mC [BE] 37 Tryz.f37 (.s .n (.j EN (.s (.r [] [] (.c 2 (.s (.r [] [] (.g 0 (.ug [10]) .n)) (.s (.s .n (.s .n (.i .x (.s .n (.i .x .n))))) (.s (.s .n (.i .x .n)) (.s .n (.s (.s .n (.s .n (.i .n (.s .n (.i .n (.s .n (.i .x .n))))))) .x))))) .n)) (.s .n (.i (.s (.r [] [] (.q 3 .co .n)) .n) .n))) .n)) [.s 36, .k (.int .i64), .k (.int .i64)] [.k (.u_ 3)] (fun x=>DU x.1 x.2.1 x.2.2.1) Tryz.func37 (by kernel_rfl)
def Pg (a0:Aa) (a1:Int):Option (Ae×Bool):=
 (QS a0 a1).bind fun r1=>
 (if decide (r1<0) then
  some ((⟨0,0,0,0,0,false,false,false,false,0,(⟨0,0,0⟩:A3 (Int)),0,0,0,false,0,0⟩:Ae),false)
 else
  (idx a0.b_ r1).bind fun e3=>
  some (e3,true))
def nB:A9:=mC [jm] 116 Tryz.f116 .n [.s 36, .k (.int .i64)] [.s 70, .k (.bool)] (fun x=>Pg x.1 x.2.1) Tryz.func116 (by kernel_rfl)
def EU (arn:List (Int)):Option ((List (Int))):=
 some arn
def Hq (jJ3:((List (Int)))->Option ((List (Int)))) (aes:Int) (abA:List (Int)):Option ((List (Int))):=
 (A1 (0<=aes/\aes<=((abA.length:Nat):Int)/\((abA.length:Nat):Int)<=((abA.length:Nat):Int)/\0<abA.length)).bind fun u10=>
 (A1 (aes+(((abA.length:Nat):Int) - aes)<=((abA.length:Nat):Int)/\0<abA.length)).bind fun u11=>
 (some (abA.take aes.toNat++(List.replicate (((abA.length:Nat):Int) - aes).toNat (0:Int)++abA.drop (aes.toNat+(((abA.length:Nat):Int) - aes).toNat)))).bind fun l12=>
 (A1 (0<=(0:Int)/\0<=aes/\aes<=((l12.length:Nat):Int)/\0<l12.length)).bind fun u13=>
 (A1 ((0:Int)=0/\(aes - 0)<=((l12.length:Nat):Int)/\0<l12.length)).bind fun u14=>
 jJ3 (l12.take (aes - 0).toNat)
def KF (ahG:Int) (auQ:Int) (apQ:List (Int)):Option ((Int×Int×(List (Int)))⊕((Int×(List (Int))))):=
 some (.inl (auQ,(Ab (ahG+1)),apQ))
def Cs (a1:Int) (ahH:Int) (ahG:Int) (ab8:List (Int)):Option ((Int×Int×(List (Int)))⊕((Int×(List (Int))))):=
 (if(decide (ahG<(ab8.length:Int))) then
  jn (fun(v:Int×(List (Int)))=>KF ahG v.1 v.2) (fun ayp=>
  (idx ab8 ahG).bind fun e30=>
  (idx ab8 ahG).bind fun e31=>
  (if !(e31==a1) then
   (idx ab8 ahH).bind fun e33=>
   (idx ab8 ahH).bind fun e35=>
   (some (ab8.set (ahH).toNat e31)).bind fun l34=>
   ayp ((Ab (ahH+1)),l34)
  else
   ayp (ahH,ab8)))
 else
  some (.inr (ahH,ab8)))
def Hr (a1:Int) (r1:(List (Int))) (jJ3:((List (Int)))->Option ((List (Int)))) (anO:Int):Option ((List (Int))):=
 (if(anO==(-1:Int)) then
  jJ3 r1
 else
  jn (fun(v:Int×(List (Int)))=>Hq jJ3 v.1 v.2) (fun jJ9=>
  (iter (fun(v:Int×Int×(List (Int)))=>Cs a1 v.1 v.2.1 v.2.2) FU (anO,(Ab (anO+1)),r1)).bind (fun o0=>jJ9 (o0.1,o0.2))))
def Sr (jJ5:(Int)->Option ((List (Int)))):Option ((List (Int))):=
 jJ5 (-1:Int)
def Ea (a1:Int) (r1:(List (Int))) (ai9:Int):Option ((Int)⊕(Unit⊕Int)):=
 (if(decide (ai9<(r1.length:Int))) then
  (idx r1 ai9).bind fun e42=>
  (idx r1 ai9).bind fun e43=>
  (if e43==a1 then
   some (.inr (.inr ai9))
  else
   some (.inl (Ab (ai9+1))))
 else
  some (.inr (.inl ())))
def Ci (a0:List (Int)) (a1:Int):Option ((List (Int))):=
 (Ao a0).bind fun r1=>
 jn (fun(v:(List (Int)))=>EU v) (fun jJ3=>
 jn (fun(v:Int)=>Hr a1 r1 jJ3 v) (fun jJ5=>
 jn (fun(v:Unit)=>Sr jJ5) (fun as_=>
 (iter (fun(v:Int)=>Ea a1 r1 v) FU (0:Int)).bind (Sum.elim (fun o0=>as_ ()) (fun o1=>jJ5 o1)))))
def Wv:A9:=mX [BE] 165 Tryz.f165 (.s .n (.s (.r [] [] (.q 1 .co (.j 3 ⟨[],[(8, .c (.c (.n_ [0,0,6])))],[],[([0,0,6], .row 3)]⟩ (.s (.r [] [] (.g 0 (.ug [8]) .n)) (.s (.r [] [] (.j 2 ⟨[0,1],[A0 10],[[0,0,6],[3]],[]⟩ (.s (.r [] [] (.g 0 (.ug [0,1,10]) .n)) (.j ⟨[],[],[[0,0,6],[3]],[]⟩ (.s .n (.l ⟨[0,1,7],[A0 8],[[0,0,6],[3]],[]⟩ [(1,⟨[],[],[[0,0,6],[3]],[]⟩),(0,⟨[],[A0 4],[[0,0,6],[3]],[]⟩)] (.s .n (.s .n (.s (.s .n (.s (.r [] [] (.c 5 (.s (.r [] [] (.g 0 (.ug [0,1,5,7,8,16]) .n)) .n) .n)) .n)) .n))))) .n)) .n)) (.s .n (.j ⟨[0],[A0 5],[],[([0,0,6], .row 3)]⟩ (.s .n (.l ⟨[0,1],[A0 5,A0 6],[[3]],[([0,0,6], .row 3)]⟩ [(1,⟨[0],[A0 5],[],[([0,0,6], .row 3)]⟩)] (.s .n (.j ⟨[0,1,6],[A0 5],[[3]],[([0,0,6], .row 3)]⟩ (.s .n (.s (.r [] [] (.c 2 (.s (.r [] [] (.g 0 (.ug [0,1,5,6,7,28]) .n)) .n) .n)) .n)) .n)))) (.s (.r [] [] (.q 2 (.sub true) (.q 3 .clr .n))) (.s (.r [] [] (.q 2 (.sub true) (.g 3 (.tr 41) .n))) .n)))))) .n))) .n)) [[1]] [.k (.u_ 3), .k (.int .i64)] [.k (.u_ 3)] (fun x=>Ci x.1 x.2.1) Tryz.func165 (by kernel_rfl)
def Ww (a2:Int) (asi:Ae):Option (Ae):=
 some ({asi with asm:=a2==0})
def IJ (a0:Ae) (a1:Int) (a2:Int) (a3:Int) (a4:Int):Option (Ae):=
 (MI a1 a0.aag a0.p_ a2 a4).bind fun r1=>
 jn (fun(v:Ae)=>Ww a2 v) (fun jJ3=>
 (some (if a2==0 then true else a2==5)).bind fun b4=>
 (if b4 then
  jJ3 ({{r1 with Token:=a0.Token}with Control:=a3})
 else
  jJ3 ({r1 with Token:=a0.Token})))
def ZX:A9:=mC [Si] 118 Tryz.f118 (.s .n (.s .n (.s .n (.j ⟨[2,10,11],[],[[10]],[([11], .box [.v (.s 70)])]⟩ .n .n)))) [.s 70, .k (.int .i64), .k (.int .i64), .k (.int .i64), .k (.int .i64)] [.s 70] (fun x=>IJ x.1 x.2.1 x.2.2.1 x.2.2.2.1 x.2.2.2.2.1) Tryz.func118 (by kernel_rfl)
def ZY:Option ((List (Int))):=
 some ([]:List (Int))
def ZZ (a0:Ac) (jJ1:(Unit)->Option ((List (Int)))) (anP:Bool):Option ((List (Int))):=
 (if anP then
  some ([(0:Int)]:List (Int))
 else if a0.Kind==3 then
  (Uw (if(a0.Options.length:Int)<(if a0.aaW<0 then(0:Int)else a0.aaW)then(a0.Options.length:Int)else(if a0.aaW<0 then(0:Int)else a0.aaW))).bind fun r6=>
  some r6
 else if a0.Kind==4 then
  (Uw (a0.Options.length:Int)).bind fun r8=>
  some r8
 else if a0.Kind==5 then
  some ([a0.aaW]:List (Int))
 else if a0.Kind==8 then
  (if(decide (0<(a0.Options.length:Int))) then
   (A1 (0<=(a0.Options.length:Int)/\(a0.Options.length:Int)<=(a0.Options.length:Int)/\(a0.Options.length:Int)*8<=140737488355328/\(a0.Options.length:Int)<=maxLen)).bind fun u13=>
   (some (List.replicate ((a0.Options.length:Int)).toNat (0:Int))).bind fun l12=>
   (idx l12 (0:Int)).bind fun e14=>
   (idx l12 (0:Int)).bind fun e16=>
   (some (l12.set ((0:Int)).toNat a0.N)).bind fun l15=>
   some l15
  else
   jJ1 ())
 else
  jJ1 ())
def B2 (a0:Ac):Option ((List (Int))):=
 jn (fun(v:Unit)=>ZY) (fun jJ1=>
 jn (fun(v:Bool)=>ZZ a0 jJ1 v) (fun jJ3=>
 (if a0.Kind==1 then
  jJ3 (a0.Kind==1)
 else if a0.Kind==2 then
  jJ3 (a0.Kind==2)
 else if a0.Kind==9 then
  jJ3 (a0.Kind==9)
 else if a0.Kind==10 then
  jJ3 (a0.Kind==10)
 else
  jJ3 (a0.Kind==11))))
def PW:A9:=mC [ni] 80 Tryz.f80 (.s .n (.s .n (.j EN (.s .n (.j ⟨[1,3,9],[EO 10],[[1]],[]⟩ .n .n)) .n))) [.s 54] [.k (.u_ 3)] (fun x=>B2 x.1) Tryz.func80 (by kernel_rfl)
def VW (a0:List (Int)) (a1:Int):Option (Int):=
 (EA a0 a1).bind fun r1=>
 some r1
def cB:A9:=mC [Gz] 173 Tryz.f173 .n [.k (.u_ 3), .k (.int .i64)] [.k (.int .i64)] (fun x=>VW x.1 x.2.1) Tryz.func173 (by kernel_rfl)
def Ss (a0:Aa) (ab2:List (Ap)) (l21:List (Ae)) (r22:(List (Int))) (r23:(List (Int))) (adu:List (AE)) (agn:List (AA)) (aqk:Int) (ans:Int) (aqn:Int) (aoJ:Bool) (ak6:Int) (anj:Int) (ann:Int) (akq:Int) (aqq:Int) (awy:List (Int)) (aqv:Int) (anb:Int) (an8:List (AY)):Option (Aa):=
 (BU a0.Extra).bind fun r69=>
 some (⟨ab2,l21,r22,r23,adu,agn,an8,aqk,ans,aqn,aoJ,ak6,anj,ann,akq,aqq,r69,aqv,anb⟩:Aa)
def K6 (a0:Aa) (al3:Int) (alC:Int) (aiD:Int) (alD:Int) (akv:Bool) (age:Int) (aiq:Int) (air:Int) (afz:Int) (alF:Int) (aku:List (Int)) (alG:Int) (aio:Int) (ajs:List (AY)):Option ((Int×Int×Int×Int×Bool×Int×Int×Int×Int×Int×(List (Int))×Int×Int×(List (AY)))⊕((Int×Int×Int×Bool×Int×Int×Int×Int×Int×(List (Int))×Int×Int×(List (AY))))):=
 (if(decide (al3<(a0.v_.length:Int))) then
  (idx a0.v_ al3).bind fun amX=>
  (BU amX.b_).bind fun apJ=>
  (app 176 ([]:List (BB)) amX.aai).bind fun aCY=>
  (app 80 ajs ([(⟨amX.adf,amX.Control,amX.Source,amX.akw,apJ,aCY⟩:AY)]:List (AY))).bind fun avA=>
  some (.inl ((Ab (al3+1)),alC,aiD,alD,akv,age,aiq,air,afz,alF,aku,alG,aio,avA))
 else
  some (.inr (alC,aiD,alD,akv,age,aiq,air,afz,alF,aku,alG,aio,ajs)))
def Su (a0:Aa) (ab2:List (Ap)) (l21:List (Ae)) (r22:(List (Int))) (r23:(List (Int))) (adu:List (AE)) (awz:List (AY)) (aql:Int) (ant:Int) (aqo:Int) (aoK:Bool) (ak7:Int) (ank:Int) (ano:Int) (akr:Int) (aqr:Int) (aoF:List (Int)) (aqw:Int) (anc:Int) (agn:List (AA)):Option (Aa):=
 jn (fun(v:Int×Int×Int×Bool×Int×Int×Int×Int×Int×(List (Int))×Int×Int×(List (AY)))=>Ss a0 ab2 l21 r22 r23 adu agn v.1 v.2.1 v.2.2.1 v.2.2.2.1 v.2.2.2.2.1 v.2.2.2.2.2.1 v.2.2.2.2.2.2.1 v.2.2.2.2.2.2.2.1 v.2.2.2.2.2.2.2.2.1 v.2.2.2.2.2.2.2.2.2.1 v.2.2.2.2.2.2.2.2.2.2.1 v.2.2.2.2.2.2.2.2.2.2.2.1 v.2.2.2.2.2.2.2.2.2.2.2.2) (fun aC2=>
 (iter (fun(v:Int×Int×Int×Int×Bool×Int×Int×Int×Int×Int×(List (Int))×Int×Int×(List (AY)))=>K6 a0 v.1 v.2.1 v.2.2.1 v.2.2.2.1 v.2.2.2.2.1 v.2.2.2.2.2.1 v.2.2.2.2.2.2.1 v.2.2.2.2.2.2.2.1 v.2.2.2.2.2.2.2.2.1 v.2.2.2.2.2.2.2.2.2.1 v.2.2.2.2.2.2.2.2.2.2.1 v.2.2.2.2.2.2.2.2.2.2.2.1 v.2.2.2.2.2.2.2.2.2.2.2.2.1 v.2.2.2.2.2.2.2.2.2.2.2.2.2) FU ((0:Int),aql,ant,aqo,aoK,ak7,ank,ano,akr,aqr,aoF,aqw,anc,([]:List (AY)))).bind (fun o0=>aC2 (o0.1,o0.2.1,o0.2.2.1,o0.2.2.2.1,o0.2.2.2.2.1,o0.2.2.2.2.2.1,o0.2.2.2.2.2.2.1,o0.2.2.2.2.2.2.2.1,o0.2.2.2.2.2.2.2.2.1,o0.2.2.2.2.2.2.2.2.2.1,o0.2.2.2.2.2.2.2.2.2.2.1,o0.2.2.2.2.2.2.2.2.2.2.2.1,o0.2.2.2.2.2.2.2.2.2.2.2.2)))
def K7 (a0:Aa) (alR:Int) (aiz:List (AY)) (akf:Int) (ahu:Int) (aki:Int) (aiC:Bool) (afy:Int) (aho:Int) (ahr:Int) (aeB:Int) (akl:Int) (aiv:List (Int)) (akp:Int) (ahj:Int) (ah8:List (AA)):Option ((Int×(List (AY))×Int×Int×Int×Bool×Int×Int×Int×Int×Int×(List (Int))×Int×Int×(List (AA)))⊕(((List (AY))×Int×Int×Int×Bool×Int×Int×Int×Int×Int×(List (Int))×Int×Int×(List (AA))))):=
 (if(decide (alR<(a0.o_.length:Int))) then
  (idx a0.o_ alR).bind fun ap6=>
  (H6 ap6.C_).bind fun aB8=>
  (app 768 ah8 ([{ap6 with C_:=aB8}]:List (AA))).bind fun aCT=>
  some (.inl ((Ab (alR+1)),aiz,akf,ahu,aki,aiC,afy,aho,ahr,aeB,akl,aiv,akp,ahj,aCT))
 else
  some (.inr (aiz,akf,ahu,aki,aiC,afy,aho,ahr,aeB,akl,aiv,akp,ahj,ah8)))
def Sv (a0:Aa) (ab2:List (Ap)) (l21:List (Ae)) (r22:(List (Int))) (r23:(List (Int))) (atB:List (AA)) (aoI:List (AY)) (aqm:Int) (anu:Int) (aqp:Int) (aoL:Bool) (ak8:Int) (anl:Int) (anp:Int) (aks:Int) (aqs:Int) (aoG:List (Int)) (aqx:Int) (ane:Int) (adu:List (AE)):Option (Aa):=
 jn (fun(v:(List (AY))×Int×Int×Int×Bool×Int×Int×Int×Int×Int×(List (Int))×Int×Int×(List (AA)))=>Su a0 ab2 l21 r22 r23 adu v.1 v.2.1 v.2.2.1 v.2.2.2.1 v.2.2.2.2.1 v.2.2.2.2.2.1 v.2.2.2.2.2.2.1 v.2.2.2.2.2.2.2.1 v.2.2.2.2.2.2.2.2.1 v.2.2.2.2.2.2.2.2.2.1 v.2.2.2.2.2.2.2.2.2.2.1 v.2.2.2.2.2.2.2.2.2.2.2.1 v.2.2.2.2.2.2.2.2.2.2.2.2.1 v.2.2.2.2.2.2.2.2.2.2.2.2.2) (fun aC4=>
 (iter (fun(v:Int×(List (AY))×Int×Int×Int×Bool×Int×Int×Int×Int×Int×(List (Int))×Int×Int×(List (AA)))=>K7 a0 v.1 v.2.1 v.2.2.1 v.2.2.2.1 v.2.2.2.2.1 v.2.2.2.2.2.1 v.2.2.2.2.2.2.1 v.2.2.2.2.2.2.2.1 v.2.2.2.2.2.2.2.2.1 v.2.2.2.2.2.2.2.2.2.1 v.2.2.2.2.2.2.2.2.2.2.1 v.2.2.2.2.2.2.2.2.2.2.2.1 v.2.2.2.2.2.2.2.2.2.2.2.2.1 v.2.2.2.2.2.2.2.2.2.2.2.2.2.1 v.2.2.2.2.2.2.2.2.2.2.2.2.2.2) FU ((0:Int),aoI,aqm,anu,aqp,aoL,ak8,anl,anp,aks,aqs,aoG,aqx,ane,([]:List (AA)))).bind (fun o0=>aC4 (o0.1,o0.2.1,o0.2.2.1,o0.2.2.2.1,o0.2.2.2.2.1,o0.2.2.2.2.2.1,o0.2.2.2.2.2.2.1,o0.2.2.2.2.2.2.2.1,o0.2.2.2.2.2.2.2.2.1,o0.2.2.2.2.2.2.2.2.2.1,o0.2.2.2.2.2.2.2.2.2.2.1,o0.2.2.2.2.2.2.2.2.2.2.2.1,o0.2.2.2.2.2.2.2.2.2.2.2.2.1,o0.2.2.2.2.2.2.2.2.2.2.2.2.2)))
def K8 (a0:Aa) (alU:Int) (agd:List (AA)) (aiy:List (AY)) (ake:Int) (aht:Int) (akh:Int) (aiB:Bool) (afx:Int) (ahn:Int) (ahq:Int) (aeA:Int) (akk:Int) (aiu:List (Int)) (ako:Int) (ahi:Int) (ah9:List (AE)):Option ((Int×(List (AA))×(List (AY))×Int×Int×Int×Bool×Int×Int×Int×Int×Int×(List (Int))×Int×Int×(List (AE)))⊕(((List (AA))×(List (AY))×Int×Int×Int×Bool×Int×Int×Int×Int×Int×(List (Int))×Int×Int×(List (AE))))):=
 (if(decide (alU<(a0.Stack.length:Int))) then
  (idx a0.Stack alU).bind fun akQ=>
  (H6 akQ.C_).bind fun al7=>
  (app 16 ([]:List (C9)) (({akQ with C_:=al7}).aaF)).bind fun aCL=>
  (app 824 ah9 ([(⟨({akQ with C_:=al7}).Id,({akQ with C_:=al7}).Kind,({akQ with C_:=al7}).Source,({akQ with C_:=al7}).Control,({akQ with C_:=al7}).X,({akQ with C_:=al7}).alc,({akQ with C_:=al7}).C_,aCL,({akQ with C_:=al7}).Event⟩:AE)]:List (AE))).bind fun aCK=>
  some (.inl ((Ab (alU+1)),agd,aiy,ake,aht,akh,aiB,afx,ahn,ahq,aeA,akk,aiu,ako,ahi,aCK))
 else
  some (.inr (agd,aiy,ake,aht,akh,aiB,afx,ahn,ahq,aeA,akk,aiu,ako,ahi,ah9)))
def Sw (a0:Aa) (auI:List (Ae)) (aqN:List (Int)) (axs:List (Int)) (axr:List (AE)) (ang:List (AA)) (aqz:List (AY)) (ar9:Int) (aoN:Int) (ar_:Int) (aoM:Bool) (ak9:Int) (anm:Int) (anq:Int) (akt:Int) (aqt:Int) (aoH:List (Int)) (aqy:Int) (anf:Int) (ab2:List (Ap)):Option (Aa):=
 (app 128 ([]:List (Ae)) a0.b_).bind fun l21=>
 (BU a0.l_).bind fun r22=>
 (BU a0.T_).bind fun r23=>
 jn (fun(v:(List (AA))×(List (AY))×Int×Int×Int×Bool×Int×Int×Int×Int×Int×(List (Int))×Int×Int×(List (AE)))=>Sv a0 ab2 l21 r22 r23 v.1 v.2.1 v.2.2.1 v.2.2.2.1 v.2.2.2.2.1 v.2.2.2.2.2.1 v.2.2.2.2.2.2.1 v.2.2.2.2.2.2.2.1 v.2.2.2.2.2.2.2.2.1 v.2.2.2.2.2.2.2.2.2.1 v.2.2.2.2.2.2.2.2.2.2.1 v.2.2.2.2.2.2.2.2.2.2.2.1 v.2.2.2.2.2.2.2.2.2.2.2.2.1 v.2.2.2.2.2.2.2.2.2.2.2.2.2.1 v.2.2.2.2.2.2.2.2.2.2.2.2.2.2) (fun an_=>
 (iter (fun(v:Int×(List (AA))×(List (AY))×Int×Int×Int×Bool×Int×Int×Int×Int×Int×(List (Int))×Int×Int×(List (AE)))=>K8 a0 v.1 v.2.1 v.2.2.1 v.2.2.2.1 v.2.2.2.2.1 v.2.2.2.2.2.1 v.2.2.2.2.2.2.1 v.2.2.2.2.2.2.2.1 v.2.2.2.2.2.2.2.2.1 v.2.2.2.2.2.2.2.2.2.1 v.2.2.2.2.2.2.2.2.2.2.1 v.2.2.2.2.2.2.2.2.2.2.2.1 v.2.2.2.2.2.2.2.2.2.2.2.2.1 v.2.2.2.2.2.2.2.2.2.2.2.2.2.1 v.2.2.2.2.2.2.2.2.2.2.2.2.2.2.1 v.2.2.2.2.2.2.2.2.2.2.2.2.2.2.2) FU ((0:Int),ang,aqz,ar9,aoN,ar_,aoM,ak9,anm,anq,akt,aqt,aoH,aqy,anf,([]:List (AE)))).bind (fun o0=>an_ (o0.1,o0.2.1,o0.2.2.1,o0.2.2.2.1,o0.2.2.2.2.1,o0.2.2.2.2.2.1,o0.2.2.2.2.2.2.1,o0.2.2.2.2.2.2.2.1,o0.2.2.2.2.2.2.2.2.1,o0.2.2.2.2.2.2.2.2.2.1,o0.2.2.2.2.2.2.2.2.2.2.1,o0.2.2.2.2.2.2.2.2.2.2.2.1,o0.2.2.2.2.2.2.2.2.2.2.2.2.1,o0.2.2.2.2.2.2.2.2.2.2.2.2.2.1,o0.2.2.2.2.2.2.2.2.2.2.2.2.2.2)))
def La (a0:Aa) (alX:Int) (agf:List (Ae)) (adN:List (Int)) (aiw:List (Int)) (aip:List (AE)) (agc:List (AA)) (aix:List (AY)) (akd:Int) (ahs:Int) (akg:Int) (aiA:Bool) (afw:Int) (ahm:Int) (ahp:Int) (aez:Int) (akj:Int) (ait:List (Int)) (akn:Int) (ahh:Int) (ah_:List (Ap)):Option ((Int×(List (Ae))×(List (Int))×(List (Int))×(List (AE))×(List (AA))×(List (AY))×Int×Int×Int×Bool×Int×Int×Int×Int×Int×(List (Int))×Int×Int×(List (Ap)))⊕(((List (Ae))×(List (Int))×(List (Int))×(List (AE))×(List (AA))×(List (AY))×Int×Int×Int×Bool×Int×Int×Int×Int×Int×(List (Int))×Int×Int×(List (Ap))))):=
 (if(decide (alX<(a0.a_.length:Int))) then
  (idx a0.a_ alX).bind fun amm=>
  (BU amm.g_).bind fun aBS=>
  (BU amm.Hand).bind fun aBR=>
  (BU amm.AT).bind fun aBQ=>
  (app 152 ah_ ([(⟨amm.afD,amm.ahw,amm.ahz,amm.ab7,amm.afE,amm.ahy,aBS,aBR,aBQ⟩:Ap)]:List (Ap))).bind fun aCJ=>
  some (.inl ((Ab (alX+1)),agf,adN,aiw,aip,agc,aix,akd,ahs,akg,aiA,afw,ahm,ahp,aez,akj,ait,akn,ahh,aCJ))
 else
  some (.inr (agf,adN,aiw,aip,agc,aix,akd,ahs,akg,aiA,afw,ahm,ahp,aez,akj,ait,akn,ahh,ah_)))
def JY (a0:Aa):Option (Aa):=
 jn (fun(v:(List (Ae))×(List (Int))×(List (Int))×(List (AE))×(List (AA))×(List (AY))×Int×Int×Int×Bool×Int×Int×Int×Int×Int×(List (Int))×Int×Int×(List (Ap)))=>Sw a0 v.1 v.2.1 v.2.2.1 v.2.2.2.1 v.2.2.2.2.1 v.2.2.2.2.2.1 v.2.2.2.2.2.2.1 v.2.2.2.2.2.2.2.1 v.2.2.2.2.2.2.2.2.1 v.2.2.2.2.2.2.2.2.2.1 v.2.2.2.2.2.2.2.2.2.2.1 v.2.2.2.2.2.2.2.2.2.2.2.1 v.2.2.2.2.2.2.2.2.2.2.2.2.1 v.2.2.2.2.2.2.2.2.2.2.2.2.2.1 v.2.2.2.2.2.2.2.2.2.2.2.2.2.2.1 v.2.2.2.2.2.2.2.2.2.2.2.2.2.2.2.1 v.2.2.2.2.2.2.2.2.2.2.2.2.2.2.2.2.1 v.2.2.2.2.2.2.2.2.2.2.2.2.2.2.2.2.2.1 v.2.2.2.2.2.2.2.2.2.2.2.2.2.2.2.2.2.2) (fun aiH=>
 (iter (fun(v:Int×(List (Ae))×(List (Int))×(List (Int))×(List (AE))×(List (AA))×(List (AY))×Int×Int×Int×Bool×Int×Int×Int×Int×Int×(List (Int))×Int×Int×(List (Ap)))=>La a0 v.1 v.2.1 v.2.2.1 v.2.2.2.1 v.2.2.2.2.1 v.2.2.2.2.2.1 v.2.2.2.2.2.2.1 v.2.2.2.2.2.2.2.1 v.2.2.2.2.2.2.2.2.1 v.2.2.2.2.2.2.2.2.2.1 v.2.2.2.2.2.2.2.2.2.2.1 v.2.2.2.2.2.2.2.2.2.2.2.1 v.2.2.2.2.2.2.2.2.2.2.2.2.1 v.2.2.2.2.2.2.2.2.2.2.2.2.2.1 v.2.2.2.2.2.2.2.2.2.2.2.2.2.2.1 v.2.2.2.2.2.2.2.2.2.2.2.2.2.2.2.1 v.2.2.2.2.2.2.2.2.2.2.2.2.2.2.2.2.1 v.2.2.2.2.2.2.2.2.2.2.2.2.2.2.2.2.2.1 v.2.2.2.2.2.2.2.2.2.2.2.2.2.2.2.2.2.2.1 v.2.2.2.2.2.2.2.2.2.2.2.2.2.2.2.2.2.2.2) FU ((0:Int),a0.b_,a0.l_,a0.T_,a0.Stack,a0.o_,a0.v_,a0.I_,a0.k_,a0.Step,a0.H_,a0.Priority,a0.Passes,a0.f_,a0.c_,a0.Tw,a0.Extra,a0.aae,a0.z_,([]:List (Ap)))).bind (fun o0=>aiH (o0.1,o0.2.1,o0.2.2.1,o0.2.2.2.1,o0.2.2.2.2.1,o0.2.2.2.2.2.1,o0.2.2.2.2.2.2.1,o0.2.2.2.2.2.2.2.1,o0.2.2.2.2.2.2.2.2.1,o0.2.2.2.2.2.2.2.2.2.1,o0.2.2.2.2.2.2.2.2.2.2.1,o0.2.2.2.2.2.2.2.2.2.2.2.1,o0.2.2.2.2.2.2.2.2.2.2.2.2.1,o0.2.2.2.2.2.2.2.2.2.2.2.2.2.1,o0.2.2.2.2.2.2.2.2.2.2.2.2.2.2.1,o0.2.2.2.2.2.2.2.2.2.2.2.2.2.2.2.1,o0.2.2.2.2.2.2.2.2.2.2.2.2.2.2.2.2.1,o0.2.2.2.2.2.2.2.2.2.2.2.2.2.2.2.2.2.1,o0.2.2.2.2.2.2.2.2.2.2.2.2.2.2.2.2.2.2)))
def MN:A9:=mX [QQ,cn] 40 Tryz.f40 (.s .n (.s .n (.s (.r [] [([3],0,[1000,3],61)] .n) (.j ⟨[1,2,3],[],[[1],[2]],[([3], .box [.c (.n_ [1000,3]), .v (.k (.u_ 70)), .v (.k (.u_ 3)), .v (.k (.u_ 3)), .v (.k (.u_ 126)), .v (.k (.u_ 129)), .v (.k (.u_ 132)),AD,AD,AD,B1,AD,AD,AD,AD, .v (.k (.int .u64)), .v (.k (.u_ 3)),AD,AD]),([1000,3], .row 61)]⟩ (.s .n (.l ⟨[1,2,3],[A0 4],[[1],[2]],[([3], .box [.c (.n_ [1000,3]), .v (.k (.u_ 70)), .v (.k (.u_ 3)), .v (.k (.u_ 3)), .v (.k (.u_ 126)), .v (.k (.u_ 129)), .v (.k (.u_ 132)),AD,AD,AD,B1,AD,AD,AD,AD, .v (.k (.int .u64)), .v (.k (.u_ 3)),AD,AD]),([1000,3], .row 61)]⟩ [(1,⟨[1,2,3],[],[[1],[2]],[([3], .box [.c (.n_ [1000,3]), .v (.k (.u_ 70)), .v (.k (.u_ 3)), .v (.k (.u_ 3)), .v (.k (.u_ 126)), .v (.k (.u_ 129)), .v (.k (.u_ 132)),AD,AD,AD,B1,AD,AD,AD,AD, .v (.k (.int .u64)), .v (.k (.u_ 3)),AD,AD]),([1000,3], .row 61)]⟩)] (.s .n (.s (.s .n (.s (.r [] [] (.q 2 .co .n)) (.s (.r [] [] (.q 2 .co .n)) (.s (.r [] [] (.q 2 .co .n)) (.r [] [] (.q 3 .bf .n)))))) .n)))) (.s .n (.s (.r [] [] (.q 2 .co .n)) (.s (.r [] [] (.q 2 .co .n)) (.s (.r [] [([3],4,[1004,3],126)] .n) (.j ⟨[1,2,3],[],[[1],[2],[0,0,51],[0,0,55],[44],[1000,3]],[([3], .box [.c (.n_ [1000,3]), .c (.n_ [44]), .c (.n_ [0,0,51]), .c (.n_ [0,0,55]), .c (.n_ [1004,3]), .v (.k (.u_ 129)), .v (.k (.u_ 132)),AD,AD,AD,B1,AD,AD,AD,AD, .v (.k (.int .u64)), .v (.k (.u_ 3)),AD,AD]),([1004,3], .row 126)]⟩ (.s .n (.l ⟨[1,2,3],[A0 6],[[1],[2],[0,0,51],[0,0,55],[44],[1000,3]],[([3], .box [.c (.n_ [1000,3]), .c (.n_ [44]), .c (.n_ [0,0,51]), .c (.n_ [0,0,55]), .c (.n_ [1004,3]), .v (.k (.u_ 129)), .v (.k (.u_ 132)),AD,AD,AD,B1,AD,AD,AD,AD, .v (.k (.int .u64)), .v (.k (.u_ 3)),AD,AD]),([1004,3], .row 126)]⟩ [(3,⟨[1,2,3],[],[[1],[2],[0,0,51],[0,0,55],[44],[1000,3]],[([3], .box [.c (.n_ [1000,3]), .c (.n_ [44]), .c (.n_ [0,0,51]), .c (.n_ [0,0,55]), .c (.n_ [1004,3]), .v (.k (.u_ 129)), .v (.k (.u_ 132)),AD,AD,AD,B1,AD,AD,AD,AD, .v (.k (.int .u64)), .v (.k (.u_ 3)),AD,AD]),([1004,3], .row 126)]⟩)] (.s .n (.s (.s .n (.s .n (.s .n (.r [] [] (.q 3 .bf .n))))) .n)))) (.s (.r [] [([3],5,[1005,3],129)] .n) (.j ⟨[1,2,3],[],[[1],[2],[0,0,51],[0,0,55],[44],[1000,3],[1004,3]],[([3], .box [.c (.n_ [1000,3]), .c (.n_ [44]), .c (.n_ [0,0,51]), .c (.n_ [0,0,55]), .c (.n_ [1004,3]), .c (.n_ [1005,3]), .v (.k (.u_ 132)),AD,AD,AD,B1,AD,AD,AD,AD, .v (.k (.int .u64)), .v (.k (.u_ 3)),AD,AD]),([1005,3], .row 129)]⟩ (.s .n (.l ⟨[1,2,3],[A0 8],[[1],[2],[0,0,51],[0,0,55],[44],[1000,3],[1004,3]],[([3], .box [.c (.n_ [1000,3]), .c (.n_ [44]), .c (.n_ [0,0,51]), .c (.n_ [0,0,55]), .c (.n_ [1004,3]), .c (.n_ [1005,3]), .v (.k (.u_ 132)),AD,AD,AD,B1,AD,AD,AD,AD, .v (.k (.int .u64)), .v (.k (.u_ 3)),AD,AD]),([1005,3], .row 129)]⟩ [(5,⟨[1,2,3],[],[[1],[2],[0,0,51],[0,0,55],[44],[1000,3],[1004,3]],[([3], .box [.c (.n_ [1000,3]), .c (.n_ [44]), .c (.n_ [0,0,51]), .c (.n_ [0,0,55]), .c (.n_ [1004,3]), .c (.n_ [1005,3]), .v (.k (.u_ 132)),AD,AD,AD,B1,AD,AD,AD,AD, .v (.k (.int .u64)), .v (.k (.u_ 3)),AD,AD]),([1005,3], .row 129)]⟩)] .n)) (.s (.r [] [([3],6,[1006,3],132)] .n) (.j ⟨[1,2,3],[],[[1],[2],[0,0,51],[0,0,55],[44],[1000,3],[1004,3],[1005,3]],[([3], .box [.c (.n_ [1000,3]), .c (.n_ [44]), .c (.n_ [0,0,51]), .c (.n_ [0,0,55]), .c (.n_ [1004,3]), .c (.n_ [1005,3]), .c (.n_ [1006,3]),AD,AD,AD,B1,AD,AD,AD,AD, .v (.k (.int .u64)), .v (.k (.u_ 3)),AD,AD]),([1006,3], .row 132)]⟩ (.s .n (.l ⟨[1,2,3],[A0 10],[[1],[2],[0,0,51],[0,0,55],[44],[1000,3],[1004,3],[1005,3]],[([3], .box [.c (.n_ [1000,3]), .c (.n_ [44]), .c (.n_ [0,0,51]), .c (.n_ [0,0,55]), .c (.n_ [1004,3]), .c (.n_ [1005,3]), .c (.n_ [1006,3]),AD,AD,AD,B1,AD,AD,AD,AD, .v (.k (.int .u64)), .v (.k (.u_ 3)),AD,AD]),([1006,3], .row 132)]⟩ [(7,⟨[1,2,3],[],[[1],[2],[0,0,51],[0,0,55],[44],[1000,3],[1004,3],[1005,3]],[([3], .box [.c (.n_ [1000,3]), .c (.n_ [44]), .c (.n_ [0,0,51]), .c (.n_ [0,0,55]), .c (.n_ [1004,3]), .c (.n_ [1005,3]), .c (.n_ [1006,3]),AD,AD,AD,B1,AD,AD,AD,AD, .v (.k (.int .u64)), .v (.k (.u_ 3)),AD,AD]),([1006,3], .row 132)]⟩)] (.s .n (.s (.s .n (.s (.r [] [] (.q 2 .co .n)) (.s .n (.r [] [] (.q 3 .bf .n))))) .n)))) (.s (.r [] [] (.q 2 .co .n)) .n)))))))))))))) [[1,1,1,1,1,1,1,0,0,0,0,0,0,0,0,0,1,0,0]] [.s 36] [.s 36] (fun x=>JY x.1) Tryz.func40 (by kernel_rfl)
def jG (a2:Int) (asi:Ae):Option (Ae):=
 some ({asi with asm:=a2==0})
def Ph (a0:Ae) (a1:Int) (a2:Int) (a3:Int) (a4:Int):Option (Ae):=
 (js a1 a0.aag a0.p_ a2 a4).bind fun r1=>
 jn (fun(v:Ae)=>jG a2 v) (fun jJ3=>
 (some (if a2==0 then true else a2==5)).bind fun b4=>
 (if b4 then
  jJ3 ({{r1 with Token:=a0.Token}with Control:=a3})
 else
  jJ3 ({r1 with Token:=a0.Token})))
def nC:A9:=mC [vR] 177 Tryz.f177 (.s .n (.s .n (.s .n (.j ⟨[2,10,11],[],[[10]],[([11], .box [.v (.s 70)])]⟩ .n .n)))) [.s 70, .k (.int .i64), .k (.int .i64), .k (.int .i64), .k (.int .i64)] [.s 70] (fun x=>Ph x.1 x.2.1 x.2.2.1 x.2.2.2.1 x.2.2.2.2.1) Tryz.func177 (by kernel_rfl)
def cC (a0:Ac) (auU:Bool):Option (Bool):=
 (if auU then
  some ((a0.Options.length:Int)==0)
 else if a0.Kind==3 then
  (some (if a0.aaW==0 then true else a0.aaW==(a0.Options.length:Int))).bind fun b9=>
  (some (if a0.aaW==a0.ahx then b9 else false)).bind fun b10=>
  some b10
 else if a0.Kind==5 then
  some (a0.aaW==a0.ahx)
 else
  some true)
def JZ (a0:Ac):Option (Bool):=
 (MK a0.Kind).bind fun r1=>
 (some (if r1 then true else a0.Kind==4)).bind fun b2=>
 (some (if b2 then true else a0.Kind==8)).bind fun b3=>
 (if b3 then
  some (decide ((a0.Options.length:Int)<=1))
 else
  jn (fun(v:Bool)=>cC a0 v) (fun jJ6=>
  (if a0.Kind==6 then
   jJ6 (a0.Kind==6)
  else
   jJ6 (a0.Kind==7))))
def jH:A9:=mC [ML] 126 Tryz.f126 (.s .n (.s .n (.s .n (.s (.s .n (.j ⟨[1,3,23],[EO 24],[[1]],[]⟩ .n .n)) .n)))) [.s 54] [.k (.bool)] (fun x=>JZ x.1) Tryz.func126 (by kernel_rfl)
def Wx (avw:List (Int)):Option ((List (Int))):=
 some avw
def Cn (a0:Ac):Option ((List (Int))):=
 (MK a0.Kind).bind fun r1=>
 (if r1 then
  some ([(0:Int)]:List (Int))
 else if a0.Kind==3 then
  (Uy (if(a0.Options.length:Int)<(if a0.aaW<0 then(0:Int)else a0.aaW)then(a0.Options.length:Int)else(if a0.aaW<0 then(0:Int)else a0.aaW))).bind fun r4=>
  some r4
 else if a0.Kind==4 then
  (Uy (a0.Options.length:Int)).bind fun r6=>
  some r6
 else if a0.Kind==5 then
  some ([a0.aaW]:List (Int))
 else if a0.Kind==8 then
  (A1 (0<=(a0.Options.length:Int)/\(a0.Options.length:Int)<=(a0.Options.length:Int)/\(a0.Options.length:Int)*8<=140737488355328/\(a0.Options.length:Int)<=maxLen)).bind fun u10=>
  (some (List.replicate ((a0.Options.length:Int)).toNat (0:Int))).bind fun l9=>
  jn (fun(v:(List (Int)))=>Wx v) (fun agV=>
  (if(decide (0<(a0.Options.length:Int))) then
   (idx l9 (0:Int)).bind fun e14=>
   (idx l9 (0:Int)).bind fun e16=>
   (some (l9.set ((0:Int)).toNat a0.N)).bind fun l15=>
   agV l15
  else
   agV l9))
 else
  some ([]:List (Int)))
def cD:A9:=mC [ML,nj] 127 Tryz.f127 (.s .n (.s .n (.s .n (.s (.s .n (.s .n (.i .n (.s .n (.i .n (.s .n (.i .n (.s .n (.i (.s .n (.j ⟨[4],[],[],[([34], .row 3)]⟩ .n .n)) .n))))))))) .n)))) [.s 54] [.k (.u_ 3)] (fun x=>Cn x.1) Tryz.func127 (by kernel_rfl)
def jI:Option (Bool):=
 some false
def cE (a0:Ac) (a1:List (Int)) (apD:Int):Option (Bool):=
 (some (if((a1.length:Int)==(a0.Options.length:Int)) then apD==a0.N else false)).bind fun b28=>
 some b28
def cF (a1:List (Int)) (ale:Int) (agW:Int):Option ((Int×Int)⊕(Int⊕Bool)):=
 (if(decide (agW<(a1.length:Int))) then
  (idx a1 agW).bind fun e37=>
  (gd ((decide (e37<0))==false) (idx a1 agW)).bind fun e38=>
  (some (if decide (e37<0) then true else decide (1000000<e38))).bind fun b39=>
  (if b39 then
   some (.inr (.inr false))
  else
   (idx a1 agW).bind fun e41=>
   some (.inl ((Ab (ale+e41)),(Ab (agW+1)))))
 else
  some (.inr (.inl ale)))
def cG (a0:Ac) (a1:List (Int)) (jJ6:(Unit)->Option (Bool)) (asG:Bool):Option (Bool):=
 (if asG then
  (DD a1 (a0.Options.length:Int)).bind fun r22=>
  (gd (r22==true) (fL a0 a1)).bind fun r23=>
  (some (if r22 then r23 else false)).bind fun b24=>
  some b24
 else if a0.Kind==8 then
  jn (fun(v:Int)=>cE a0 a1 v) (fun aob=>
  (iter (fun(v:Int×Int)=>cF a1 v.1 v.2) FU ((0:Int),(0:Int))).bind (Sum.elim (fun o0=>aob o0) (fun o1=>some o1)))
 else
  jJ6 ())
def F7 (a0:Ac) (a1:List (Int)):Option (Bool):=
 (if(decide (256<(a1.length:Int))) then
  some false
 else
  (MK a0.Kind).bind fun r2=>
  (if r2 then
   (gd (((a1.length:Int)==1)==true) (DD a1 (a0.Options.length:Int))).bind fun r4=>
   (some (if((a1.length:Int)==1) then r4 else false)).bind fun b5=>
   some b5
  else
   jn (fun(v:Unit)=>jI) (fun jJ6=>
   (if a0.Kind==3 then
    (DD a1 (a0.Options.length:Int)).bind fun r8=>
    (some (if r8 then decide (a0.aaW<=(a1.length:Int))else false)).bind fun b9=>
    (some (if b9 then decide ((a1.length:Int)<=a0.ahx)else false)).bind fun b10=>
    some b10
   else if a0.Kind==4 then
    (DD a1 (a0.Options.length:Int)).bind fun r12=>
    (some (if r12 then(a1.length:Int)==(a0.Options.length:Int)else false)).bind fun b13=>
    some b13
   else if a0.Kind==5 then
    (gd (((a1.length:Int)==1)==true) (idx a1 (0:Int))).bind fun e15=>
    (some (if((a1.length:Int)==1) then decide (a0.aaW<=e15)else false)).bind fun b16=>
    (gd (b16==true) (idx a1 (0:Int))).bind fun e17=>
    (some (if b16 then decide (e17<=a0.ahx)else false)).bind fun b18=>
    some b18
   else
    jn (fun(v:Bool)=>cG a0 a1 jJ6 v) (fun aiH=>
    (if a0.Kind==6 then
     aiH (a0.Kind==6)
    else
     aiH (a0.Kind==7)))))))
def nD:A9:=mC [ML,cr,nk] 128 Tryz.f128 (.s .n (.s .n (.s .n (.s .n (.j EN (.s .n (.s .n (.i .n (.s .n (.i .n (.s .n (.i .n (.j ⟨[1,2,5,26],[EO 78],[[2]],[]⟩ .n (.i .n (.s .n (.i (.s .n (.j ⟨[1,2,5],[A0 6],[[2]],[]⟩ (.s .n (.l ⟨[1,2,5],[A0 6,A0 7],[[2]],[]⟩ [(2,⟨[1,2,5],[A0 6],[[2]],[]⟩),(0,⟨[],[EO 4],[],[]⟩)] .n)) .n)) .n))))))))))) .n))))) [.s 54, .k (.u_ 3)] [.k (.bool)] (fun x=>F7 x.1 x.2.1) Tryz.func128 (by kernel_rfl)
def UA (a0:Int) (a1:Int):Option (Int×Int):=
 (if decide (a1<1) then
  some ((0:Int),a0)
 else
  (nl a0).bind fun r2=>
  (A1 ((IntKind.u64.wrap (a1)) ≠ 0)).bind fun u3=>
  some (Ab (Int.tmod r2.1 (IntKind.u64.wrap (a1))),r2.2))
def nE:A9:=mC [q9] 57 Tryz.f57 .n [.k (.int .u64), .k (.int .i64)] [.k (.int .i64), .k (.int .u64)] (fun x=>UA x.1 x.2.1) Tryz.func57 (by kernel_rfl)
def GB (a0:Ap) (a1:Ap):Option (Bool):=
 (some (if a0.afD != a1.afD then true else a0.ahw != a1.ahw)).bind fun b1=>
 (some (if b1 then true else a0.ahz != a1.ahz)).bind fun b2=>
 (some (if b2 then true else !(a0.ab7==a1.ab7))).bind fun b3=>
 (some (if b3 then true else a0.afE != a1.afE)).bind fun b4=>
 (some (if b4 then true else a0.ahy != a1.ahy)).bind fun b5=>
 (if b5 then
  some false
 else
  (Fn a0.g_ a1.g_).bind fun r7=>
  (gd (r7==true) (Fn a0.Hand a1.Hand)).bind fun r8=>
  (some (if r7 then r8 else false)).bind fun b9=>
  (gd (b9==true) (Fn a0.AT a1.AT)).bind fun r10=>
  (some (if b9 then r10 else false)).bind fun b11=>
  some b11)
def UB:A9:=mC [QT] 58 Tryz.f58 .n [.s 61, .s 61] [.k (.bool)] (fun x=>GB x.1 x.2.1) Tryz.func58 (by kernel_rfl)
def IK (a0:AY) (a1:AY):Option (Bool):=
 (some (if a0.adf==a1.adf then a0.Control==a1.Control else false)).bind fun b1=>
 (some (if b1 then a0.Source==a1.Source else false)).bind fun b2=>
 (some (if b2 then a0.akw==a1.akw else false)).bind fun b3=>
 (gd (b3==true) (Fn a0.b_ a1.b_)).bind fun r4=>
 (some (if b3 then r4 else false)).bind fun b5=>
 (gd (b5==true) (IH a0.aai a1.aai)).bind fun r6=>
 (some (if b5 then r6 else false)).bind fun b7=>
 some b7
def Z0:A9:=mC [QT,ZQ] 61 Tryz.f61 .n [.s 132, .s 132] [.k (.bool)] (fun x=>IK x.1 x.2.1) Tryz.func61 (by kernel_rfl)
end Go.PL
