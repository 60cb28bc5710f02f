/- Functions of the program, as partial functions in Lean, with proofs. -/
import Derived.Test.YtiddnfpjgojoaaaGreatDoorPlEdB
namespace Go.PL
open Go Go.RowKit Go.Proofs
set_option maxRecDepth 100000
set_option linter.all false
set_option maxHeartbeats 4000000
attribute [local irreducible] Aj BO Bz
def GC:Option (Bool):=
 some true
def DG (a0:Be):Option (Bool):=
 jn (fun(v:Unit)=>GC) (fun jJ1=>
 (if(a0.Kind==1)=true then
  some (a0.Object != 0)
 else
  (if(a0.Kind==2)=true then
   (some (if(a0.From==0)=true then true else a0.To==0)).bind fun b4=>
   some b4
  else
   (if(a0.Kind==6)=true then
    jJ1 ()
   else
    (if(a0.Kind==7)=true then
     jJ1 ()
    else
     (if(a0.Kind==8)=true then
      jJ1 ()
     else
      (if(a0.Kind==9)=true then
       jJ1 ()
      else
       some false)))))))
def Ok:CE TE Tryz.prog I0:=AK [] Ab Ad 9 17 Tryz.f17 (Tryz.f17.body.getD .skip) (.s .n (.s (.s .n (.j ⟨[],[],[],[]⟩ .n .n)) .n)) [.s 34] [.k (.bool)] (fun x=>DG x.1) Tryz.func17 rfl (by kernel_rfl)
def Cj (a0:Int):Option (Int):=
 (if(decide (1000000<a0))=true then
  some (1000000:Int)
 else
  (if(decide (a0<(-1000000:Int)))=true then
   some (-1000000:Int)
  else
   some a0))
def I5:CE TE Tryz.prog I0:=AK [] Ab Ad 9 103 Tryz.f103 (Tryz.f103.body.getD .skip) .n [.k (.int .i64)] [.k (.int .i64)] (fun x=>Cj x.1) Tryz.func103 rfl (by kernel_rfl)
def AX (a0:Int) (vt14_8:Bool):Option (Int):=
 (if vt14_8=true then
  some (4:Int)
 else
  (if(a0==11)=true then
   some (5:Int)
  else
   (if(a0==12)=true then
    some (6:Int)
   else
    (if(a0==13)=true then
     some (7:Int)
    else
     (if(a0==14)=true then
      some (8:Int)
     else
      some (0:Int))))))
def Cr (a0:Int) (vt11_5:Bool):Option (Int):=
 (if vt11_5=true then
  some (3:Int)
 else
  jn (fun(v:Bool)=>AX a0 v) (fun jJ9=>
  (if(a0==8)=true then
   jJ9 (a0==8)
  else
   (if(a0==9)=true then
    jJ9 (a0==9)
   else
    jJ9 (a0==10)))))
def Fc (a0:Int) (vt6_2:Bool):Option (Int):=
 (if vt6_2=true then
  some (2:Int)
 else
  jn (fun(v:Bool)=>Cr a0 v) (fun jJ6=>
  (if(a0==6)=true then
   jJ6 (a0==6)
  else
   jJ6 (a0==7))))
def Dw (a0:Int):Option (Int):=
 (if(a0==1)=true then
  some (1:Int)
 else
  jn (fun(v:Bool)=>Fc a0 v) (fun jJ3=>
  (if(a0==2)=true then
   jJ3 (a0==2)
  else
   (if(a0==3)=true then
    jJ3 (a0==3)
   else
    (if(a0==4)=true then
     jJ3 (a0==4)
    else
     jJ3 (a0==5))))))
def MO:CE TE Tryz.prog I0:=AK [] Ab Ad 9 66 Tryz.f66 (Tryz.f66.body.getD .skip) (.s .n (.s (.s .n (.s .n (.i .n (.j ⟨[3],[(6, .c (.v (.k (.bool))))],[],[]⟩ .n (.i .n (.j ⟨[3],[(11, .c (.v (.k (.bool))))],[],[]⟩ .n (.i .n (.j ⟨[3],[(14, .c (.v (.k (.bool))))],[],[]⟩ .n .n)))))))) .n)) [.k (.int .i64)] [.k (.int .i64)] (fun x=>Dw x.1) Tryz.func66 rfl (by kernel_rfl)
def ia (a0:Int) (r:Int):Prop:=AQ Tryz.prog I0 66 [vI a0] (· =vI r)
theorem Q0 {a0:Int} {r:Int} (h:Dw a0=some r):ia a0 r:=Cz (by kernel_rfl) (MO.ok (a0,()) r h)
def Q1:Option (Int):=
 some (-1:Int)
def Q3 (a0:Ao) (a1:Int) (i_t5_3:Int):Option ((Int)⊕(Unit⊕Int)):=
 (if(decide (i_t5_3<(a0.Objects.length:Int)))=true then
  (idx a0.Objects i_t5_3).bind fun e7=>
  (if(e7.Id==a1)=true then
   some (.inr (.inr i_t5_3))
  else
   some (.inl (Ac (i_t5_3+1))))
 else
  some (.inr (.inl ())))
def Kg (a0:Ao) (a1:Int):Option (Int):=
 jn (fun(v:Unit)=>Q1) (fun jJ1=>
 (iter (fun(v:Int)=>Q3 a0 a1 v) FU (0:Int)).bind (Sum.elim (fun o0=>jJ1 ()) (fun o1=>some o1)))
def UM:CE TE Tryz.prog I0:=AK [] Ab Ad 9 107 Tryz.f107 (Tryz.f107.body.getD .skip) (.s .n (.j ⟨[],[],[],[]⟩ (.s .n (.l ⟨[1,2],[(5, .c (.v (.k (.int .i64))))],[[2]],[]⟩ [(1,⟨[],[],[],[]⟩),(0,⟨[],[(4, .c (.v (.k (.int .i64))))],[],[]⟩)] .n)) .n)) [.s 31, .k (.int .i64)] [.k (.int .i64)] (fun x=>Kg x.1 x.2.1) Tryz.func107 rfl (by kernel_rfl)
def du:Option (Int):=
 some (-1:Int)
def Q4 (a0:List (Int)) (a1:Int) (i_t5_3:Int):Option ((Int)⊕(Unit⊕Int)):=
 (if(decide (i_t5_3<(a0.length:Int)))=true then
  (idx a0 i_t5_3).bind fun e7=>
  (if(e7==a1)=true then
   some (.inr (.inr i_t5_3))
  else
   some (.inl (Ac (i_t5_3+1))))
 else
  some (.inr (.inl ())))
def N9 (a0:List (Int)) (a1:Int):Option (Int):=
 jn (fun(v:Unit)=>du) (fun jJ1=>
 (iter (fun(v:Int)=>Q4 a0 a1 v) FU (0:Int)).bind (Sum.elim (fun o0=>jJ1 ()) (fun o1=>some o1)))
def ib:CE TE Tryz.prog I0:=AK [] Ab Ad 9 110 Tryz.f110 (Tryz.f110.body.getD .skip) (.s .n (.j ⟨[],[],[],[]⟩ (.s .n (.l ⟨[0,1],[(5, .c (.v (.k (.int .i64))))],[],[]⟩ [(1,⟨[],[],[],[]⟩),(0,⟨[],[(4, .c (.v (.k (.int .i64))))],[],[]⟩)] .n)) .n)) [.k (.lst 3), .k (.int .i64)] [.k (.int .i64)] (fun x=>N9 x.1 x.2.1) Tryz.func110 rfl (by kernel_rfl)
def VS (a0:Int) (a1:Int) (a2:Int):Option (Bool):=
 (if(a2==1)=true then
  some (a0==a1)
 else
  (some (if(a2 != 2)=true then true else a0 != a1)).bind fun b2=>
  some b2)
def px:CE TE Tryz.prog I0:=AK [] Ab Ad 9 143 Tryz.f143 (Tryz.f143.body.getD .skip) .n [.k (.int .i64), .k (.int .i64), .k (.int .i64)] [.k (.bool)] (fun x=>VS x.1 x.2.1 x.2.2.1) Tryz.func143 rfl (by kernel_rfl)
def Q5 (a0:Int) (a1:Int) (a2:Int):Option (Bool):=
 (if(a2==1)=true then
  some (a0==a1)
 else
  (some (if(a2 != 2)=true then true else a0 != a1)).bind fun b2=>
  some b2)
def lC:CE TE Tryz.prog I0:=AK [] Ab Ad 9 144 Tryz.f144 (Tryz.f144.body.getD .skip) .n [.k (.int .i64), .k (.int .i64), .k (.int .i64)] [.k (.bool)] (fun x=>Q5 x.1 x.2.1 x.2.2.1) Tryz.func144 rfl (by kernel_rfl)
def VU (a0:Bool) (a1:Int):Option (Bool):=
 (if(a1==1)=true then
  some a0
 else
  (some (if(a1 != 2)=true then true else !a0)).bind fun b2=>
  some b2)
def py:CE TE Tryz.prog I0:=AK [] Ab Ad 9 145 Tryz.f145 (Tryz.f145.body.getD .skip) .n [.k (.bool), .k (.int .i64)] [.k (.bool)] (fun x=>VU x.1 x.2.1) Tryz.func145 rfl (by kernel_rfl)
def C9 (a0:Int) (a1:Int):Option (Bool):=
 some ((eN .i64 a0 a1) != (0:Int))
def OI:CE TE Tryz.prog I0:=AK [] Ab Ad 9 146 Tryz.f146 (Tryz.f146.body.getD .skip) .n [.k (.int .i64), .k (.int .i64)] [.k (.bool)] (fun x=>C9 x.1 x.2.1) Tryz.func146 rfl (by kernel_rfl)
def VV (a0:Int) (a1:Int):Option (Bool):=
 some ((eN .i64 a0 a1)==a1)
def pz:CE TE Tryz.prog I0:=AK [] Ab Ad 9 148 Tryz.f148 (Tryz.f148.body.getD .skip) .n [.k (.int .i64), .k (.int .i64)] [.k (.bool)] (fun x=>VV x.1 x.2.1) Tryz.func148 rfl (by kernel_rfl)
def Ht (a0:Az) (a1:Int):Option (Bool):=
 (if(a0.Kind==0)=true then
  some true
 else
  (if(a0.Kind==1)=true then
   some (decide (a0.N≤a1))
  else
   (if(a0.Kind==2)=true then
    some (decide (a1≤a0.N))
   else
    (if(a0.Kind==3)=true then
     some (a1==a0.N)
    else
     some false))))
def ic:CE TE Tryz.prog I0:=AK [] Ab Ad 9 180 Tryz.f180 (Tryz.f180.body.getD .skip) .n [.s 90, .k (.int .i64)] [.k (.bool)] (fun x=>Ht x.1 x.2.1) Tryz.func180 rfl (by kernel_rfl)
def XO (a0:List (Ah)) (a1:Int):Option (Ah):=
 (some (if(decide (a1<0))=true then true else decide ((a0.length:Int)≤a1))).bind fun b1=>
 (if b1=true then
  some (⟨[],(⟨0,0,(⟨0,0,0,0,0⟩:A5 (Int))⟩:Bs),0,(⟨0,0,([]:List (List UInt8))⟩:BZ),0,0,0,([]:List (Aw)),0⟩:Ah)
 else
  (idx a0 a1).bind fun e3=>
  some e3)
def rW:CE TE Tryz.prog I0:=AK [] Ab Ad 9 150 Tryz.f150 (Tryz.f150.body.getD .skip) .n [.k (.lst 70), .k (.int .i64)] [.s 70] (fun x=>XO x.1 x.2.1) Tryz.func150 rfl (by kernel_rfl)
def rX (a0:List (Ah)) (a1:Int) (r:Ah):Prop:=AQ Tryz.prog I0 150 [vL Ag a0,vI a1] (· =vA Ag r)
theorem pA {a0:List (Ah)} {a1:Int} {r:Ah} (h:XO a0 a1=some r):rX a0 a1 r:=Cz (by kernel_rfl) (rW.ok (a0,a1,()) r h)
def ig:Option (Bool):=
 some true
def UN (a0:List (Int)) (a1:List (Int)) (i_t5_4:Int):Option ((Int)⊕(Unit⊕Bool)):=
 (if(decide (i_t5_4<(a0.length:Int)))=true then
  (idx a0 i_t5_4).bind fun e8=>
  (idx a1 i_t5_4).bind fun e9=>
  (if(e8 != e9)=true then
   some (.inr (.inr false))
  else
   some (.inl (Ac (i_t5_4+1))))
 else
  some (.inr (.inl ())))
def Kh (a0:List (Int)) (a1:List (Int)):Option (Bool):=
 (if((a0.length:Int) != (a1.length:Int))=true then
  some false
 else
  jn (fun(v:Unit)=>ig) (fun jJ2=>
  (iter (fun(v:Int)=>UN a0 a1 v) FU (0:Int)).bind (Sum.elim (fun o0=>jJ2 ()) (fun o1=>some o1))))
def lD:CE TE Tryz.prog I0:=AK [] Ab Ad 9 104 Tryz.f104 (Tryz.f104.body.getD .skip) (.s .n (.s .n (.j ⟨[],[],[],[]⟩ (.s .n (.l ⟨[0,1],[(5, .c (.v (.k (.int .i64))))],[],[]⟩ [(1,⟨[],[],[],[]⟩),(0,⟨[],[(4, .c (.v (.k (.bool))))],[],[]⟩)] .n)) .n))) [.k (.lst 3), .k (.lst 3)] [.k (.bool)] (fun x=>Kh x.1 x.2.1) Tryz.func104 rfl (by kernel_rfl)
def lE (a0:List (Int)) (a1:List (Int)) (r:Bool):Prop:=AQ Tryz.prog I0 104 [vL (eI .i64) a0,vL (eI .i64) a1] (· =vB r)
theorem UO {a0:List (Int)} {a1:List (Int)} {r:Bool} (h:Kh a0 a1=some r):lE a0 a1 r:=Cz (by kernel_rfl) (lD.ok (a0,a1,()) r h)
def lF:Option (Bool):=
 some false
def XP (a0:List (Int)) (a1:Int) (k_t5_3:Int):Option ((Int)⊕(Unit⊕Bool)):=
 (if(decide (k_t5_3<(a0.length:Int)))=true then
  (idx a0 k_t5_3).bind fun e7=>
  (if(e7==a1)=true then
   some (.inr (.inr true))
  else
   some (.inl (Ac (k_t5_3+1))))
 else
  some (.inr (.inl ())))
def K1 (a0:List (Int)) (a1:Int):Option (Bool):=
 jn (fun(v:Unit)=>lF) (fun jJ1=>
 (iter (fun(v:Int)=>XP a0 a1 v) FU (0:Int)).bind (Sum.elim (fun o0=>jJ1 ()) (fun o1=>some o1)))
def SK:CE TE Tryz.prog I0:=AK [] Ab Ad 9 141 Tryz.f141 (Tryz.f141.body.getD .skip) (.s .n (.j ⟨[],[],[],[]⟩ (.s .n (.l ⟨[0,1],[(5, .c (.v (.k (.int .i64))))],[],[]⟩ [(1,⟨[],[],[],[]⟩),(0,⟨[],[(4, .c (.v (.k (.bool))))],[],[]⟩)] .n)) .n)) [.k (.lst 3), .k (.int .i64)] [.k (.bool)] (fun x=>K1 x.1 x.2.1) Tryz.func141 rfl (by kernel_rfl)
def pB (a0:List (Int)) (a1:Int) (r:Bool):Prop:=AQ Tryz.prog I0 141 [vL (eI .i64) a0,vI a1] (· =vB r)
theorem lG {a0:List (Int)} {a1:Int} {r:Bool} (h:K1 a0 a1=some r):pB a0 a1 r:=Cz (by kernel_rfl) (SK.ok (a0,a1,()) r h)
def GD (a0:List (List (Bool))) (a1:Int) (a2:Int):Option (Bool):=
 (gd ((decide (a1<(a0.length:Int)))==true) (idx a0 a1)).bind fun e1=>
 (some (if(decide (a1<(a0.length:Int)))=true then decide (a2<(e1.length:Int))else false)).bind fun b2=>
 (gd (b2==true) (idx a0 a1)).bind fun e3=>
 (gd (b2==true) (idx e3 a2)).bind fun e4=>
 (some (if b2=true then e4 else false)).bind fun b5=>
 some b5
def XQ:CE TE Tryz.prog I0:=AK [] Ab Ad 9 140 Tryz.f140 (Tryz.f140.body.getD .skip) .n [.k (.lst 52), .k (.int .i64), .k (.int .i64)] [.k (.bool)] (fun x=>GD x.1 x.2.1 x.2.2.1) Tryz.func140 rfl (by kernel_rfl)
def lH (a0:List (List (Bool))) (a1:Int) (a2:Int) (r:Bool):Prop:=AQ Tryz.prog I0 140 [vL (eL (eB)) a0,vI a1,vI a2] (· =vB r)
theorem ii {a0:List (List (Bool))} {a1:Int} {a2:Int} {r:Bool} (h:GD a0 a1 a2=some r):lH a0 a1 a2 r:=Cz (by kernel_rfl) (XQ.ok (a0,a1,a2,()) r h)
def Hu (a0:List (Int)) (a1:Int):Option (Int):=
 (if(decide (a1<(a0.length:Int)))=true then
  (idx a0 a1).bind fun e2=>
  some e2
 else
  some (0:Int))
def ij:CE TE Tryz.prog I0:=AK [] Ab Ad 9 106 Tryz.f106 (Tryz.f106.body.getD .skip) .n [.k (.lst 3), .k (.int .i64)] [.k (.int .i64)] (fun x=>Hu x.1 x.2.1) Tryz.func106 rfl (by kernel_rfl)
def MP (l5_1:List (Int)):Option ((List (Int))):=
 some l5_1
def LK (i_t6_6:Int) (l5_11:List (Int)):Option ((Int×(List (Int)))⊕((List (Int)))):=
 some (.inl ((Ac (i_t6_6+1)),l5_11))
def Ig (a0:List (Int)) (a1:Int) (i_t6_6:Int) (l5_7:List (Int)):Option ((Int×(List (Int)))⊕((List (Int)))):=
 (if(decide (i_t6_6<(a0.length:Int)))=true then
  jn (fun(v:(List (Int)))=>LK i_t6_6 v) (fun jJ12=>
  (idx a0 i_t6_6).bind fun e13=>
  (if(e13 != a1)=true then
   (idx a0 i_t6_6).bind fun e15=>
   (app 8 l5_7 ([e15]:List (Int))).bind fun l16=>
   jJ12 l16
  else
   jJ12 l5_7))
 else
  some (.inr l5_7))
def I6 (a0:List (Int)) (a1:Int):Option ((List (Int))):=
 jn (fun(v:(List (Int)))=>MP v) (fun jJ2=>
 (iter (fun(v:Int×(List (Int)))=>Ig a0 a1 v.1 v.2) FU ((0:Int),([]:List (Int)))).bind (fun o0=>jJ2 o0))
def YV:CE TE Tryz.prog I0:=AK [] Ab Ad 9 42 Tryz.f42 (Tryz.f42.body.getD .skip) (.s .n (.s .n (.j ⟨[],[(5, .c (.c (.osl [5])))],[],[([5], .row 3)]⟩ (.s .n (.l ⟨[0,1],[(5, .c (.c (.osl [5]))),(6, .c (.v (.k (.int .i64))))],[],[([5], .row 3)]⟩ [(1,⟨[],[(5, .c (.c (.osl [5])))],[],[([5], .row 3)]⟩)] (.s .n (.j ⟨[0,1,6],[(5, .c (.c (.osl [5])))],[],[([5], .row 3)]⟩ .n .n)))) .n))) [.k (.lst 3), .k (.int .i64)] [.k (.lst 3)] (fun x=>I6 x.1 x.2.1) Tryz.func42 rfl (by kernel_rfl)
def MQ (a2:Be):Option (Int):=
 some a2.Player
def Ih (a0:Ao) (a1:List (Ah)) (a2:Be) (object_t7_1:Bool) (i_t8_5:Int):Option ((Int)⊕(Unit⊕Int)):=
 (some (if(decide (i_t8_5<(a0.Objects.length:Int)))=true then object_t7_1 else false)).bind fun b8=>
 (if b8=true then
  (idx a0.Objects i_t8_5).bind fun e10=>
  (if(e10.Id==a2.Object)=true then
   (if(decide (i_t8_5<(a1.length:Int)))=true then
    (idx a1 i_t8_5).bind fun e13=>
    some (.inr (.inr e13.Control))
   else
    some (.inr (.inr (0:Int))))
  else
   some (.inl (Ac (i_t8_5+1))))
 else
  some (.inr (.inl ())))
def Ii (a0:Ao) (a1:List (Ah)) (a2:Be) (object_t7_1:Bool):Option (Int):=
 jn (fun(v:Unit)=>MQ a2) (fun jJ3=>
 (iter (fun(v:Int)=>Ih a0 a1 a2 object_t7_1 v) FU (0:Int)).bind (Sum.elim (fun o0=>jJ3 ()) (fun o1=>some o1)))
def LL (jJ2:(Bool)→Option (Int)) (vt26_17:Bool):Option (Int):=
 (if vt26_17=true then
  jJ2 true
 else
  jJ2 false)
def GE (a0:Ao) (a1:List (Ah)) (a2:Be):Option (Int):=
 jn (fun(v:Bool)=>Ii a0 a1 a2 v) (fun jJ2=>
 (if(a2.Kind==1)=true then
  jJ2 (a2.Object != 0)
 else
  (if(a2.Kind==2)=true then
   (some (if(a2.From==0)=true then true else a2.To==0)).bind fun b16=>
   jJ2 b16
  else
   jn (fun(v:Bool)=>LL jJ2 v) (fun jJ18=>
   (if(a2.Kind==6)=true then
    jJ18 (a2.Kind==6)
   else
    (if(a2.Kind==7)=true then
     jJ18 (a2.Kind==7)
    else
     (if(a2.Kind==8)=true then
      jJ18 (a2.Kind==8)
     else
      jJ18 (a2.Kind==9))))))))
def YW:CE TE Tryz.prog I0:=AK [] Ab Ad 9 8 Tryz.f8 (Tryz.f8.body.getD .skip) (.s .n (.s .n (.j ⟨[1,3,5],[(7, .c (.v (.k (.bool))))],[[3],[5]],[]⟩ (.s .n (.s .n (.i .n (.s .n (.i .n (.j ⟨[1,3,5,7],[(26, .c (.v (.k (.bool))))],[[3],[5]],[]⟩ .n .n)))))) (.j ⟨[5],[],[[5]],[]⟩ (.s .n (.l ⟨[1,3,5,7],[(8, .c (.v (.k (.int .i64))))],[[3],[5]],[]⟩ [(2,⟨[5],[],[[5]],[]⟩),(0,⟨[],[(6, .c (.v (.k (.int .i64))))],[],[]⟩)] .n)) .n)))) [.s 31, .k (.lst 70), .s 34] [.k (.int .i64)] (fun x=>GE x.1 x.2.1 x.2.2.1) Tryz.func8 rfl (by kernel_rfl)
end Go.PL
