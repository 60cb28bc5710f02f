/- Functions of the program, as partial functions in Lean, with proofs. -/
import Derived.Test.YtiddnfpjgojoaaaGreatDoorPlEdB
import Derived.Test.YtiddnfpjgojoaaaGreatDoorPlEdF0
import Derived.Test.YtiddnfpjgojoaaaGreatDoorPlEdF1
import Derived.Test.YtiddnfpjgojoaaaGreatDoorPlEdF2
namespace Go.PL
open Go Go.RowKit Go.Proofs
set_option maxRecDepth 100000
set_option linter.all false
set_option maxHeartbeats 4000000
attribute [local irreducible] Aj BO Bz
def bw:Option (Bool):=
 some true
def XT (a0:List UInt8) (i_t3_10:Int):Option ((Int)⊕(Unit⊕Bool)):=
 (if(decide (i_t3_10<(a0.length:Int)))=true then
  (sidx a0 i_t3_10).bind fun c14=>
  (QJ c14).bind fun r15=>
  (gd ((!r15)==true) (sidx a0 i_t3_10)).bind fun c16=>
  (gd (((!r15)==true)&&((decide (c16<48))==false)) (sidx a0 i_t3_10)).bind fun c17=>
  (some (if(decide (c16<48))=true then true else decide (57<c17))).bind fun b18=>
  (some (if(!r15)=true then b18 else false)).bind fun b19=>
  (gd (b19==true) (sidx a0 i_t3_10)).bind fun c20=>
  (some (if b19=true then c20 != 45 else false)).bind fun b21=>
  (if b21=true then
   some (.inr (.inr false))
  else
   (gd ((decide (0<i_t3_10))==true) (sidx a0 i_t3_10)).bind fun c23=>
   (some (if(decide (0<i_t3_10))=true then c23==45 else false)).bind fun b24=>
   (gd (b24==true) (sidx a0 (Ac (i_t3_10 - 1)))).bind fun c25=>
   (some (if b24=true then c25==45 else false)).bind fun b26=>
   (if b26=true then
    some (.inr (.inr false))
   else
    some (.inl (Ac (i_t3_10+1)))))
 else
  some (.inr (.inl ())))
def SM (a0:List UInt8):Option (Bool):=
 (some (if(decide ((a0.length:Int)<1))=true then true else decide (32<(a0.length:Int)))).bind fun b1=>
 (gd (b1==false) (sidx a0 (0:Int))).bind fun c2=>
 (gd (b1==false) (QJ c2)).bind fun r3=>
 (some (if b1=true then true else !r3)).bind fun b4=>
 (gd (b4==false) (sidx a0 (Ac ((a0.length:Int) - (1:Int))))).bind fun c5=>
 (some (if b4=true then true else c5==45)).bind fun b6=>
 (if b6=true then
  some false
 else
  jn (fun(v:Unit)=>bw) (fun jJ8=>
  (iter (fun(v:Int)=>XT a0 v) FU (0:Int)).bind (Sum.elim (fun o0=>jJ8 ()) (fun o1=>some o1))))
def XU:CE TE Tryz.prog I0:=AK [pp] Ab Ad 9 43 Tryz.f43 (Tryz.f43.body.getD .skip) (.s .n (.s .n (.j ⟨[],[],[],[]⟩ (.s .n (.l ⟨[0],[(3, .c (.v (.k (.int .i64))))],[],[]⟩ [(1,⟨[],[],[],[]⟩),(0,⟨[],[(2, .c (.v (.k (.bool))))],[],[]⟩)] .n)) .n))) [.k (.str)] [.k (.bool)] (fun x=>SM x.1) Tryz.func43 rfl (by kernel_rfl)
def OL (s_t7_1:List UInt8):Option ((List UInt8)):=
 some s_t7_1
def Fe (i_t8_6:Int) (s_t7_10:List UInt8):Option (((List UInt8)×Int)⊕((List UInt8))):=
 some (.inl (s_t7_10,(Ac (i_t8_6+1))))
def Ij (a0:List (List UInt8)) (i_t8_6:Int) (jJ11:((List UInt8))→Option (((List UInt8)×Int)⊕((List UInt8)))) (s_t7_14:List UInt8):Option (((List UInt8)×Int)⊕((List UInt8))):=
 (idx a0 i_t8_6).bind fun e16=>
 (cat s_t7_14 e16).bind fun s17=>
 jJ11 s17
def Jz (a0:List (List UInt8)) (a1:Int) (a2:List UInt8) (s_t7_5:List UInt8) (i_t8_6:Int):Option (((List UInt8)×Int)⊕((List UInt8))):=
 (if(decide (i_t8_6<(a0.length:Int)))=true then
  jn (fun(v:(List UInt8))=>Fe i_t8_6 v) (fun jJ11=>
  (N0 a1 i_t8_6).bind fun r12=>
  (if r12=true then
   jn (fun(v:(List UInt8))=>Ij a0 i_t8_6 jJ11 v) (fun jJ15=>
   (if(s_t7_5 != ([]:List UInt8))=true then
    (cat s_t7_5 a2).bind fun s19=>
    jJ15 s19
   else
    jJ15 s_t7_5))
  else
   jJ11 s_t7_5))
 else
  some (.inr s_t7_5))
def K2 (a0:List (List UInt8)) (a1:Int) (a2:List UInt8):Option ((List UInt8)):=
 jn (fun(v:(List UInt8))=>OL v) (fun jJ2=>
 (iter (fun(v:(List UInt8)×Int)=>Jz a0 a1 a2 v.1 v.2) FU (([]:List UInt8),(0:Int))).bind (fun o0=>jJ2 o0))
def dv:CE TE Tryz.prog I0:=AK [br] Ab Ad 9 162 Tryz.f162 (Tryz.f162.body.getD .skip) (.s .n (.s .n (.j ⟨[],[(7, .c (.v (.k (.str))))],[],[]⟩ (.s .n (.l ⟨[0,1,2],[(7, .c (.v (.k (.str)))),(8, .c (.v (.k (.int .i64))))],[],[]⟩ [(1,⟨[],[(7, .c (.v (.k (.str))))],[],[]⟩)] (.s .n (.j ⟨[0,1,2,8],[(7, .c (.v (.k (.str))))],[],[]⟩ (.s .n (.i (.j ⟨[0,1,2,8],[(7, .c (.v (.k (.str))))],[],[]⟩ .n .n) .n)) .n)))) .n))) [.k (.lst 9), .k (.int .i64), .k (.str)] [.k (.str)] (fun x=>K2 x.1 x.2.1 x.2.2.1) Tryz.func162 rfl (by kernel_rfl)
def UP (out_t3_4:List UInt8):Option ((List UInt8)):=
 some out_t3_4
def He (i_t4_9:Int) (out_t3_13:List UInt8):Option (((List UInt8)×Int)⊕((List UInt8))):=
 some (.inl (out_t3_13,(Ac (i_t4_9+1))))
def K3 (i_t4_9:Int) (jJ14:((List UInt8))→Option (((List UInt8)×Int)⊕((List UInt8)))) (out_t3_18:List UInt8):Option (((List UInt8)×Int)⊕((List UInt8))):=
 (Kf i_t4_9).bind fun r20=>
 (cat out_t3_18 r20).bind fun s21=>
 jJ14 s21
def K4 (a0:Int) (out_t3_8:List UInt8) (i_t4_9:Int):Option (((List UInt8)×Int)⊕((List UInt8))):=
 (if(decide (i_t4_9<5))=true then
  jn (fun(v:(List UInt8))=>He i_t4_9 v) (fun jJ14=>
  (need (0≤i_t4_9)).bind fun u15=>
  (need ((Ac ((1:Int)*2 ^ (min (i_t4_9).toNat (IntKind.i64).bits))) ≠ 0)).bind fun u16=>
  (if((Int.tmod (Ac (Int.tdiv a0 (Ac ((1:Int)*2 ^ (min (i_t4_9).toNat (IntKind.i64).bits))))) (2:Int))==(1:Int))=true then
   jn (fun(v:(List UInt8))=>K3 i_t4_9 jJ14 v) (fun jJ19=>
   (if(out_t3_8 != ([]:List UInt8))=true then
    (cat out_t3_8 IY).bind fun s23=>
    jJ19 s23
   else
    jJ19 out_t3_8))
  else
   jJ14 out_t3_8))
 else
  some (.inr out_t3_8))
def MR (a0:Int):Option ((List UInt8)):=
 (dg a0).bind fun r1=>
 (if(!r1)=true then
  some ([]:List UInt8)
 else
  (if(a0==0)=true then
   some Qw
  else
   jn (fun(v:(List UInt8))=>UP v) (fun jJ5=>
   (iter (fun(v:(List UInt8)×Int)=>K4 a0 v.1 v.2) FU (([]:List UInt8),(0:Int))).bind (fun o0=>jJ5 o0))))
def lI:CE TE Tryz.prog I0:=AK [rT,XH] Ab Ad 9 132 Tryz.f132 (Tryz.f132.body.getD .skip) (.s .n (.s .n (.s .n (.s .n (.j ⟨[],[(3, .c (.v (.k (.str))))],[],[]⟩ (.s .n (.l ⟨[0],[(3, .c (.v (.k (.str)))),(4, .c (.v (.k (.int .i64))))],[],[]⟩ [(1,⟨[],[(3, .c (.v (.k (.str))))],[],[]⟩)] (.s .n (.j ⟨[0,4],[(3, .c (.v (.k (.str))))],[],[]⟩ (.s .n (.i (.j ⟨[0,4],[(3, .c (.v (.k (.str))))],[],[]⟩ .n .n) .n)) .n)))) .n))))) [.k (.int .i64)] [.k (.str)] (fun x=>MR x.1) Tryz.func132 rfl (by kernel_rfl)
def MS (a0:Int):Option ((List UInt8)):=
 (some (if(decide (a0<0))=true then true else decide (16<a0))).bind fun b1=>
 (if b1=true then
  some ([]:List UInt8)
 else
  (N2).bind fun r3=>
  (idx r3 a0).bind fun e4=>
  some e4)
def XV:CE TE Tryz.prog I0:=AK [gX] Ab Ad 9 165 Tryz.f165 (Tryz.f165.body.getD .skip) .n [.k (.int .i64)] [.k (.str)] (fun x=>MS x.1) Tryz.func165 rfl (by kernel_rfl)
def Ff (a0:Int):Option ((List UInt8)):=
 (if(decide (a0<0))=true then
  (EI (IntKind.u64.wrap (0 - (IntKind.u64.wrap (a0))))).bind fun r2=>
  (cat cT r2).bind fun s3=>
  some s3
 else
  (EI (IntKind.u64.wrap (a0))).bind fun r4=>
  some r4)
def PC:CE TE Tryz.prog I0:=AK [E_r01_digits] Ab Ad 9 135 Tryz.f135 (Tryz.f135.body.getD .skip) .n [.k (.int .i64)] [.k (.str)] (fun x=>Ff x.1) Tryz.func135 rfl (by kernel_rfl)
def Oa (a0:EG):Option (Bool):=
 (MH a0.Mana).bind fun r1=>
 (some (if r1=true then a0.Mana.X==0 else false)).bind fun b2=>
 (some (if b2=true then decide (0≤a0.Life)else false)).bind fun b3=>
 (some (if b3=true then decide (a0.Life≤99)else false)).bind fun b4=>
 some b4
def ik:CE TE Tryz.prog I0:=AK [MI] Ab Ad 9 80 Tryz.f80 (Tryz.f80.body.getD .skip) .n [.s 105] [.k (.bool)] (fun x=>Oa x.1) Tryz.func80 rfl (by kernel_rfl)
def Ga (a0:Int):Option (Bool):=
 (MK a0).bind fun r1=>
 (gd ((r1 != ([]:List UInt8))==true) (Ia a0)).bind fun r2=>
 (some (if(!r2)=true then true else a0==9)).bind fun b3=>
 (some (if(r1 != ([]:List UInt8))=true then b3 else false)).bind fun b4=>
 some b4
def Vd:CE TE Tryz.prog I0:=AK [XK,QN] Ab Ad 9 119 Tryz.f119 (Tryz.f119.body.getD .skip) .n [.k (.int .i64)] [.k (.bool)] (fun x=>Ga x.1) Tryz.func119 rfl (by kernel_rfl)
def io:Option (Bool):=
 some false
def UQ (a1:Int) (r1:(List UInt8)) (i_t6_4:Int):Option ((Int)⊕(Unit⊕Bool)):=
 (if(decide (i_t6_4<(r1.length:Int)))=true then
  (sidx r1 i_t6_4).bind fun c8=>
  (if(c8==a1)=true then
   some (.inr (.inr true))
  else
   some (.inl (Ac (i_t6_4+1))))
 else
  some (.inr (.inl ())))
def DW (a0:Int) (a1:Int):Option (Bool):=
 (QP a0).bind fun r1=>
 jn (fun(v:Unit)=>io) (fun jJ2=>
 (iter (fun(v:Int)=>UQ a1 r1 v) FU (0:Int)).bind (Sum.elim (fun o0=>jJ2 ()) (fun o1=>some o1)))
def lJ:CE TE Tryz.prog I0:=AK [lr] Ab Ad 9 153 Tryz.f153 (Tryz.f153.body.getD .skip) (.s .n (.s .n (.j ⟨[],[],[],[]⟩ (.s .n (.l ⟨[1,5],[(6, .c (.v (.k (.int .i64))))],[],[]⟩ [(1,⟨[],[],[],[]⟩),(0,⟨[],[(4, .c (.v (.k (.bool))))],[],[]⟩)] .n)) .n))) [.k (.int .i64), .k (.int .u8)] [.k (.bool)] (fun x=>DW x.1 x.2.1) Tryz.func153 rfl (by kernel_rfl)
def XW:Option (Bool):=
 some true
def MT (i_t5_3:Int):Option ((Int)⊕(Unit⊕Bool)):=
 some (.inl (Ac (i_t5_3+1)))
def LM (a0:List (A1)) (a1:A1) (i_t5_3:Int) (k_t6_9:Int):Option ((Int)⊕(Unit⊕Bool)):=
 (idx a1.Abilities i_t5_3).bind fun e12=>
 (if(decide (k_t6_9<(e12.Effects.length:Int)))=true then
  (idx a1.Abilities i_t5_3).bind fun e14=>
  (idx e14.Effects k_t6_9).bind fun e15=>
  (gd ((e15.Op==12)==true) (N5 a0 e15.Card)).bind fun r16=>
  (some (if(e15.Op==12)=true then !r16 else false)).bind fun b17=>
  (if b17=true then
   some (.inr (.inr false))
  else
   some (.inl (Ac (k_t6_9+1))))
 else
  some (.inr (.inl ())))
def MU (a0:List (A1)) (a1:A1) (i_t5_3:Int):Option ((Int)⊕(Unit⊕Bool)):=
 (if(decide (i_t5_3<(a1.Abilities.length:Int)))=true then
  jn (fun(v:Unit)=>MT i_t5_3) (fun jJ7=>
  (iter (fun(v:Int)=>LM a0 a1 i_t5_3 v) FU (0:Int)).bind (Sum.elim (fun o0=>jJ7 ()) (fun o1=>some (.inr (.inr o1)))))
 else
  some (.inr (.inl ())))
def I7 (a0:List (A1)) (a1:A1):Option (Bool):=
 jn (fun(v:Unit)=>XW) (fun jJ1=>
 (iter (fun(v:Int)=>MU a0 a1 v) FU (0:Int)).bind (Sum.elim (fun o0=>jJ1 ()) (fun o1=>some o1)))
def YX:CE TE Tryz.prog I0:=AK [hH] Ab Ad 9 20 Tryz.f20 (Tryz.f20.body.getD .skip) (.s .n (.j ⟨[],[],[],[]⟩ (.s .n (.l ⟨[0,3],[(5, .c (.v (.k (.int .i64))))],[[3]],[]⟩ [(1,⟨[],[],[],[]⟩),(0,⟨[],[(4, .c (.v (.k (.bool))))],[],[]⟩)] (.s .n (.j ⟨[0,3,5],[],[[3]],[]⟩ (.s .n (.l ⟨[0,3,5],[(6, .c (.v (.k (.int .i64))))],[[3]],[]⟩ [(3,⟨[0,3,5],[],[[3]],[]⟩),(0,⟨[],[(4, .c (.v (.k (.bool))))],[],[]⟩)] .n)) .n)))) .n)) [.k (.lst 73), .s 73] [.k (.bool)] (fun x=>I7 x.1 x.2.1) Tryz.func20 rfl (by kernel_rfl)
def Q6 (a0:Ao) (a1:Int):Option (AO×Bool):=
 (N7 a0 a1).bind fun r1=>
 (if(decide (r1<0))=true then
  some ((⟨0,0,0,0,0,false,false,false,false,0,(⟨0,0,0⟩:A3 (Int)),0,0,0,false,0,0⟩:AO),false)
 else
  (idx a0.Objects r1).bind fun e3=>
  some (e3,true))
def lK:CE TE Tryz.prog I0:=AK [hP] Ab Ad 9 125 Tryz.f125 (Tryz.f125.body.getD .skip) .n [.s 31, .k (.int .i64)] [.s 61, .k (.bool)] (fun x=>Q6 x.1 x.2.1) Tryz.func125 rfl (by kernel_rfl)
def CS (a0:Ao) (a1:Int):Option (Bool):=
 (DT a1 (0:Int) (Ac ((a0.Players.length:Int) - (1:Int)))).bind fun r1=>
 some r1
def K5:CE TE Tryz.prog I0:=AK [MM] Ab Ad 9 23 Tryz.f23 (Tryz.f23.body.getD .skip) .n [.s 31, .k (.int .i64)] [.k (.bool)] (fun x=>CS x.1 x.2.1) Tryz.func23 rfl (by kernel_rfl)
def dw (a0:AO) (a1:Int) (a2:Int):Option (Bool):=
 (some (if(decide (a0.Id<1))=true then true else decide (a0.Card<0))).bind fun b1=>
 (some (if b1=true then true else decide (a1≤a0.Card))).bind fun b2=>
 (some (if b2=true then true else decide (a0.Owner<0))).bind fun b3=>
 (some (if b3=true then true else decide (a2≤a0.Owner))).bind fun b4=>
 (some (if b4=true then true else decide (a0.Control<0))).bind fun b5=>
 (some (if b5=true then true else decide (a2≤a0.Control))).bind fun b6=>
 (some (if b6=true then true else decide (a0.Zone<0))).bind fun b7=>
 (some (if b7=true then true else decide (5<a0.Zone))).bind fun b8=>
 (if b8=true then
  some false
 else
  (some (if(decide (a0.Damage<0))=true then true else decide (1000000<a0.Damage))).bind fun b10=>
  (some (if b10=true then true else decide (a0.Stamp<0))).bind fun b11=>
  (some (if b11=true then true else decide (1000000<a0.Stamp))).bind fun b12=>
  (some (if b12=true then true else decide (a0.Blocks<0))).bind fun b13=>
  (some (if b13=true then true else decide (1000000<a0.Blocks))).bind fun b14=>
  (some (if b14=true then true else decide (a0.Shield<0))).bind fun b15=>
  (some (if b15=true then true else decide (1000000<a0.Shield))).bind fun b16=>
  (if b16=true then
   some false
  else
   (dl a0.Counters).bind fun r18=>
   (some (if(!r18)=true then true else decide (a0.Copy<(-1:Int)))).bind fun b19=>
   (some (if b19=true then true else decide (a1≤a0.Copy))).bind fun b20=>
   (some (if b20=true then true else decide (a0.Attack<(-1:Int)))).bind fun b21=>
   (some (if b21=true then true else decide (a2≤a0.Attack))).bind fun b22=>
   (if b22=true then
    some false
   else
    (gd ((a0.Zone==0)==false) (QY a0)).bind fun r24=>
    (gd (((a0.Zone==0)==false)&&((a0==r24)==true)) (N8 a0)).bind fun r25=>
    (some (if(a0==r24)=true then a0==r25 else false)).bind fun b26=>
    (some (if b26=true then !a0.Tapped else false)).bind fun b27=>
    (some (if b27=true then !a0.Sick else false)).bind fun b28=>
    (some (if b28=true then a0.Counters==(⟨0,0,0⟩:A3 (Int))else false)).bind fun b29=>
    (some (if(a0.Zone==0)=true then true else b29)).bind fun b30=>
    some b30)))
def rY:CE TE Tryz.prog I0:=AK [rU,lz,hY] Ab Ad 9 53 Tryz.f53 (Tryz.f53.body.getD .skip) .n [.s 61, .k (.int .i64), .k (.int .i64)] [.k (.bool)] (fun x=>dw x.1 x.2.1 x.2.2.1) Tryz.func53 rfl (by kernel_rfl)
def MV (a0:Ao) (a1:Int) (a2:Int):Option ((List (Int))):=
 (if(a1==0)=true then
  (GB a0.Battlefield).bind fun r2=>
  some r2
 else
  (if(a1==4)=true then
   (GB a0.Exile).bind fun r4=>
   some r4
  else
   (some (if(decide (a2<0))=true then true else decide ((a0.Players.length:Int)≤a2))).bind fun b5=>
   (if b5=true then
    some ([]:List (Int))
   else
    (if(a1==1)=true then
     (idx a0.Players a2).bind fun e8=>
     (GB e8.Hand).bind fun r9=>
     some r9
    else
     (if(a1==2)=true then
      (idx a0.Players a2).bind fun e11=>
      (GB e11.Library).bind fun r12=>
      some r12
     else
      (if(a1==3)=true then
       (idx a0.Players a2).bind fun e14=>
       (GB e14.Graveyard).bind fun r15=>
       some r15
      else
       some ([]:List (Int))))))))
def lL:CE TE Tryz.prog I0:=AK [lA] Ab Ad 9 91 Tryz.f91 (Tryz.f91.body.getD .skip) .n [.s 31, .k (.int .i64), .k (.int .i64)] [.k (.lst 3)] (fun x=>MV x.1 x.2.1 x.2.2.1) Tryz.func91 rfl (by kernel_rfl)
def lM (a0:Ao) (a1:Int) (a2:Int) (r:(List (Int))):Prop:=AQ Tryz.prog I0 91 [vA A4 a0,vI a1,vI a2] (· =vL (eI .i64) r)
theorem iq {a0:Ao} {a1:Int} {a2:Int} {r:(List (Int))} (h:MV a0 a1 a2=some r):lM a0 a1 a2 r:=Cz (by kernel_rfl) (lL.ok (a0,a1,a2,()) r h)
def Q7 (a0:AV) (a1:AV):Option (Bool):=
 (some (if(a0.Op==a1.Op)=true then a0.Ref==a1.Ref else false)).bind fun b1=>
 (some (if b1=true then a0.Amount==a1.Amount else false)).bind fun b2=>
 (some (if b2=true then a0.Counter==a1.Counter else false)).bind fun b3=>
 (some (if b3=true then a0.Zone==a1.Zone else false)).bind fun b4=>
 (some (if b4=true then a0.Card==a1.Card else false)).bind fun b5=>
 (some (if b5=true then a0.Filter==a1.Filter else false)).bind fun b6=>
 (some (if b6=true then a0.Pool==a1.Pool else false)).bind fun b7=>
 (gd (b7==true) (E9 a0.Mods a1.Mods)).bind fun r8=>
 (some (if b7=true then r8 else false)).bind fun b9=>
 some b9
def lN:CE TE Tryz.prog I0:=AK [MN] Ab Ad 9 161 Tryz.f161 (Tryz.f161.body.getD .skip) .n [.s 119, .s 119] [.k (.bool)] (fun x=>Q7 x.1 x.2.1) Tryz.func161 rfl (by kernel_rfl)
def YY (l9_4:List (List UInt8)):Option ((List UInt8)):=
 (nK l9_4 cU).bind fun r6=>
 some r6
def XX (a0:Be) (vt35_10:Int) (l9_11:List (List UInt8)):Option ((Int×(List (List UInt8)))⊕((List (List UInt8)))):=
 (if(decide (vt35_10<9))=true then
  (idx (⟨a0.Source,a0.Object,a0.Player,a0.Amount,a0.From,a0.To,a0.Cause,a0.Counter,a0.Card⟩:A9 (Int)).l vt35_10).bind fun e15=>
  (hZ e15).bind fun r16=>
  (app 16 l9_11 ([r16]:List (List UInt8))).bind fun l17=>
  some (.inl ((Ac (vt35_10+1)),l17))
 else
  some (.inr l9_11))
def YZ (a0:Be) (l9_2:List (List UInt8)):Option ((List UInt8)):=
 jn (fun(v:(List (List UInt8)))=>YY v) (fun jJ5=>
 (iter (fun(v:Int×(List (List UInt8)))=>XX a0 v.1 v.2) FU ((0:Int),l9_2)).bind (fun o0=>jJ5 o0))
def K6 (a0:Be):Option ((List UInt8)):=
 (Ie a0.Kind).bind fun r1=>
 jn (fun(v:(List (List UInt8)))=>YZ a0 v) (fun jJ3=>
 (idx ([r1]:List (List UInt8)) (0:Int)).bind fun e18=>
 (idx ([r1]:List (List UInt8)) (0:Int)).bind fun e19=>
 (if(e19==([]:List UInt8))=true then
  (idx ([r1]:List (List UInt8)) (0:Int)).bind fun e21=>
  (idx ([r1]:List (List UInt8)) (0:Int)).bind fun e23=>
  (some (([r1]:List (List UInt8)).set ((0:Int)).toNat ui)).bind fun l22=>
  jJ3 l22
 else
  jJ3 ([r1]:List (List UInt8))))
def dx:CE TE Tryz.prog I0:=AK [QZ,lB,uH] Ab Ad 9 12 Tryz.f12 (Tryz.f12.body.getD .skip) (.s .n (.s .n (.j ⟨[1,3],[],[[1]],[([9], .row 9)]⟩ .n (.j ⟨[],[(3, .c (.c (.osl [9])))],[],[([9], .row 9)]⟩ (.s .n (.l ⟨[34],[(3, .c (.c (.osl [9]))),(35, .c (.v (.k (.int .i64))))],[],[([9], .row 9)]⟩ [(1,⟨[],[(3, .c (.c (.osl [9])))],[],[([9], .row 9)]⟩)] .n)) .n)))) [.s 34] [.k (.str)] (fun x=>K6 x.1) Tryz.func12 rfl (by kernel_rfl)
def dy (a0:Be) (r:(List UInt8)):Prop:=AQ Tryz.prog I0 12 [vA FK a0] (· =vS r)
theorem OM {a0:Be} {r:(List UInt8)} (h:K6 a0=some r):dy a0 r:=Cz (by kernel_rfl) (dx.ok (a0,()) r h)
def Ki (a0:Ao) (a1:Int):Option (AO×Bool):=
 (XN a0 a1).bind fun r1=>
 (if(decide (r1<0))=true then
  some ((⟨0,0,0,0,0,false,false,false,false,0,(⟨0,0,0⟩:A3 (Int)),0,0,0,false,0,0⟩:AO),false)
 else
  (idx a0.Objects r1).bind fun e3=>
  some (e3,true))
def MW:CE TE Tryz.prog I0:=AK [dt] Ab Ad 9 35 Tryz.f35 (Tryz.f35.body.getD .skip) .n [.s 31, .k (.int .i64)] [.s 61, .k (.bool)] (fun x=>Ki x.1 x.2.1) Tryz.func35 rfl (by kernel_rfl)
def ir (a0:Ao) (a1:Int) (r:AO×Bool):Prop:=AQ Tryz.prog I0 35 [vA A4 a0,vI a1] (· = .tup [vA Ai r.1,vB r.2])
theorem dz {a0:Ao} {a1:Int} {r:AO×Bool} (h:Ki a0 a1=some r):ir a0 a1 r:=Cz (by kernel_rfl) (MW.ok (a0,a1,()) r h)
def ON (a0:List (A1)) (a1:Ao) (a2:Be):Option (Bool):=
 (De a1 a2.Player).bind fun r1=>
 (some (if r1=true then decide (0≤a2.Card)else false)).bind fun b2=>
 (some (if b2=true then decide (a2.Card<(a0.length:Int))else false)).bind fun b3=>
 (gd (b3==true) (idx a0 a2.Card)).bind fun e4=>
 (some (if b3=true then e4.Token else false)).bind fun b5=>
 (gd (b5==true) (Fa a2)).bind fun r6=>
 (some (if b5=true then r6 else false)).bind fun b7=>
 some b7
def Ve:CE TE Tryz.prog I0:=AK [If,Fb] Ab Ad 9 34 Tryz.f34 (Tryz.f34.body.getD .skip) .n [.k (.lst 73), .s 31, .s 34] [.k (.bool)] (fun x=>ON x.1 x.2.1 x.2.2.1) Tryz.func34 rfl (by kernel_rfl)
def SN (a2:Be):Option (Int):=
 some a2.Player
def Kj (a0:Ao) (a1:List (Ah)) (a2:Be) (vt17_5:Int):Option ((Int)⊕(Unit⊕Int)):=
 (if(decide (vt17_5<(a0.Objects.length:Int)))=true then
  (idx a0.Objects vt17_5).bind fun e9=>
  (if(e9.Id != a2.Object)=true then
   some (.inl (Ac (vt17_5+1)))
  else
   (if(decide (vt17_5<(a1.length:Int)))=true then
    (idx a1 vt17_5).bind fun e12=>
    some (.inr (.inr e12.Control))
   else
    some (.inr (.inr (0:Int)))))
 else
  some (.inr (.inl ())))
def Dx (a0:Ao) (a1:List (Ah)) (a2:Be):Option (Int):=
 (DG a2).bind fun r1=>
 (if(!r1)=true then
  some a2.Player
 else
  jn (fun(v:Unit)=>SN a2) (fun jJ3=>
  (iter (fun(v:Int)=>Kj a0 a1 a2 v) FU (0:Int)).bind (Sum.elim (fun o0=>jJ3 ()) (fun o1=>some o1))))
def LN:CE TE Tryz.prog I0:=AK [Ok] Ab Ad 9 7 Tryz.f7 (Tryz.f7.body.getD .skip) (.s .n (.s .n (.j ⟨[5],[],[[5]],[]⟩ (.s .n (.l ⟨[1,5,15,16],[(17, .c (.v (.k (.int .i64))))],[[5]],[]⟩ [(1,⟨[5],[],[[5]],[]⟩),(0,⟨[],[(6, .c (.v (.k (.int .i64))))],[],[]⟩)] .n)) .n))) [.s 31, .k (.lst 70), .s 34] [.k (.int .i64)] (fun x=>Dx x.1 x.2.1 x.2.2.1) Tryz.func7 rfl (by kernel_rfl)
def Vf (a0:Ao) (a1:List (Ah)) (a2:Be) (r:Int):Prop:=AQ Tryz.prog I0 7 [vA A4 a0,vL Ag a1,vA FK a2] (· =vI r)
theorem SO {a0:Ao} {a1:List (Ah)} {a2:Be} {r:Int} (h:Dx a0 a1 a2=some r):Vf a0 a1 a2 r:=Cz (by kernel_rfl) (LN.ok (a0,a1,a2,()) r h)
def VW (a0:Int) (a1:Int):Option (Int):=
 (Cj a0).bind fun r1=>
 (Cj a1).bind fun r2=>
 (Cj (Ac (r1 - r2))).bind fun r3=>
 some r3
def pC:CE TE Tryz.prog I0:=AK [I5] Ab Ad 9 102 Tryz.f102 (Tryz.f102.body.getD .skip) .n [.k (.int .i64), .k (.int .i64)] [.k (.int .i64)] (fun x=>VW x.1 x.2.1) Tryz.func102 rfl (by kernel_rfl)
def Gb (a0:Int) (a1:Int):Option (Int):=
 (Cj a0).bind fun r1=>
 (Cj a1).bind fun r2=>
 (Cj (Ac (r1+r2))).bind fun r3=>
 some r3
def SP:CE TE Tryz.prog I0:=AK [I5] Ab Ad 9 65 Tryz.f65 (Tryz.f65.body.getD .skip) .n [.k (.int .i64), .k (.int .i64)] [.k (.int .i64)] (fun x=>Gb x.1 x.2.1) Tryz.func65 rfl (by kernel_rfl)
def pE (a0:Int) (a1:Int) (r:Int):Prop:=AQ Tryz.prog I0 65 [vI a0,vI a1] (· =vI r)
theorem XY {a0:Int} {a1:Int} {r:Int} (h:Gb a0 a1=some r):pE a0 a1 r:=Cz (by kernel_rfl) (SP.ok (a0,a1,()) r h)
end Go.PL
