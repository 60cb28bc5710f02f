/- Functions of the program, as partial functions in Lean, with proofs. -/
import Derived.Test.YtiddnfpjgojoaaaGreatDoorPlEdB
namespace Go.PL
open Go Go.RowKit Go.Proofs
set_option maxRecDepth 100000
set_option linter.all false
set_option maxHeartbeats 4000000
attribute [local irreducible] Aj BO Bz
def N4 (a0:BB):Option (Bool):=
 (some (if(a0.Zone != 0)=true then true else a0.Counter != 0)).bind fun b1=>
 (if b1=true then
  some false
 else
  (some (if(a0.Do==2)=true then true else a0.Do==4)).bind fun b3=>
  (if b3=true then
   (some (if(decide (1≤a0.N))=true then decide (a0.N≤99)else false)).bind fun b5=>
   some b5
  else
   some (a0.N==0)))
def gZ:CE TE Tryz.prog I0:=AK [] Ab Ad 9 121 Tryz.f121 (Tryz.f121.body.getD .skip) .n [.s 111] [.k (.bool)] (fun x=>N4 x.1) Tryz.func121 rfl (by kernel_rfl)
def QO (a0:Int):Option ((List UInt8)):=
 (some (if(decide (a0<1))=true then true else decide (26<a0))).bind fun b1=>
 (if b1=true then
  some ([]:List UInt8)
 else
  (idx ([FL,I1,J8,J9,I2,Ka,Kb,NY,Ho,NZ,Kc,FM,VQ,QE,I3,QF,KU,F6,QG,QH,KV,KW,QI,VR,KX,Hp]:List (List UInt8)) (Ac (a0 - 1))).bind fun e3=>
  (idx ([FL,I1,J8,J9,I2,Ka,Kb,NY,Ho,NZ,Kc,FM,VQ,QE,I3,QF,KU,F6,QG,QH,KV,KW,QI,VR,KX,Hp]:List (List UInt8)) (Ac (a0 - 1))).bind fun e4=>
  some e4)
def lq:CE TE Tryz.prog I0:=AK [] Ab Ad 9 152 Tryz.f152 (Tryz.f152.body.getD .skip) .n [.k (.int .i64)] [.k (.str)] (fun x=>QO x.1) Tryz.func152 rfl (by kernel_rfl)
def AL (vt29_14:Bool):Option ((List UInt8)):=
 (if vt29_14=true then
  some ([]:List UInt8)
 else
  some B2)
def BD (a0:Int) (vt14_5:Bool):Option ((List UInt8)):=
 (if vt14_5=true then
  some Db
 else
  (if(a0==12)=true then
   some Dc
  else
   (if(a0==13)=true then
    some EH
   else
    (if(a0==14)=true then
     some H7
    else
     (if(a0==18)=true then
      some Dd
     else
      (if(a0==20)=true then
       some H8
      else
       (if(a0==21)=true then
        some H9
       else
        jn (fun(v:Bool)=>AL v) (fun jJ15=>
        (if(a0==23)=true then
         jJ15 (a0==23)
        else
         jJ15 (a0==24))))))))))
def C8 (a0:Int) (vt4_1:Bool):Option ((List UInt8)):=
 (if vt4_1=true then
  some UI
 else
  (if(a0==3)=true then
   some MF
  else
   jn (fun(v:Bool)=>BD a0 v) (fun jJ6=>
   (if(a0==10)=true then
    jJ6 (a0==10)
   else
    jJ6 (a0==11)))))
def QP (a0:Int):Option ((List UInt8)):=
 jn (fun(v:Bool)=>C8 a0 v) (fun jJ2=>
 (if(a0==2)=true then
  jJ2 (a0==2)
 else
  (if(a0==8)=true then
   jJ2 (a0==8)
  else
   (if(a0==9)=true then
    jJ2 (a0==9)
   else
    (if(a0==15)=true then
     jJ2 (a0==15)
    else
     (if(a0==16)=true then
      jJ2 (a0==16)
     else
      (if(a0==17)=true then
       jJ2 (a0==17)
      else
       jJ2 (a0==25))))))))
def lr:CE TE Tryz.prog I0:=AK [] Ab Ad 9 182 Tryz.f182 (Tryz.f182.body.getD .skip) (.s .n (.s (.s .n (.j ⟨[3],[(4, .c (.v (.k (.bool))))],[],[]⟩ .n (.i .n (.s .n (.i .n (.j ⟨[3],[(14, .c (.v (.k (.bool))))],[],[]⟩ .n (.i .n (.s .n (.i .n (.s .n (.i .n (.s .n (.i .n (.s .n (.i .n (.s .n (.i .n (.s .n (.i .n (.j ⟨[],[(29, .c (.v (.k (.bool))))],[],[]⟩ .n .n)))))))))))))))))))) .n)) [.k (.int .i64)] [.k (.str)] (fun x=>QP x.1) Tryz.func182 rfl (by kernel_rfl)
def Hd (a0:Int):Option (Bool):=
 (some (if(a0==3)=true then true else a0==8)).bind fun b1=>
 some b1
def XL:CE TE Tryz.prog I0:=AK [] Ab Ad 9 183 Tryz.f183 (Tryz.f183.body.getD .skip) .n [.k (.int .i64)] [.k (.bool)] (fun x=>Hd x.1) Tryz.func183 rfl (by kernel_rfl)
def ML (a0:Int):Option ((List UInt8)):=
 (if(a0==0)=true then
  some rO
 else
  (if(a0==1)=true then
   some po
  else
   (if(a0==2)=true then
    some kU
   else
    some ([]:List UInt8))))
def XM:CE TE Tryz.prog I0:=AK [] Ab Ad 9 155 Tryz.f155 (Tryz.f155.body.getD .skip) .n [.k (.int .i64)] [.k (.str)] (fun x=>ML x.1) Tryz.func155 rfl (by kernel_rfl)
def g0 (b3_3:Bs):Option (Bs):=
 some b3_3
def KZ (a0:A6 (Int)) (i_t4_8:Int) (b3_9:Bs):Option ((Int×Bs)⊕(Bs)):=
 (if(decide (i_t4_8<5))=true then
  (idx a0.l (Ac (i_t4_8+1))).bind fun e13=>
  (idx a0.l (Ac (i_t4_8+1))).bind fun e14=>
  (idx b3_9.Color.l i_t4_8).bind fun e15=>
  (idx (b3_9.Color.l) i_t4_8).bind fun e16=>
  some (.inl ((Ac (i_t4_8+1)),({b3_9 with Color:=b3_9.Color.set (i_t4_8).toNat e14})))
 else
  some (.inr b3_9))
def QQ (a0:A6 (Int)):Option (Bs):=
 (idx a0.l (0:Int)).bind fun e1=>
 (idx a0.l (0:Int)).bind fun e2=>
 jn (fun(v:Bs)=>g0 v) (fun jJ4=>
 (iter (fun(v:Int×Bs)=>KZ a0 v.1 v.2) FU ((0:Int),(⟨e2,0,(⟨0,0,0,0,0⟩:A5 (Int))⟩:Bs))).bind (fun o0=>jJ4 o0))
def lu:CE TE Tryz.prog I0:=AK [] Ab Ad 9 185 Tryz.f185 (Tryz.f185.body.getD .skip) (.s .n (.s .n (.j ⟨[2,3],[],[[2]],[([3], .box [.v (.s 64)])]⟩ (.s .n (.l ⟨[1,2,3],[(4, .c (.v (.k (.int .i64))))],[[1],[2]],[([3], .box [.v (.s 64)])]⟩ [(1,⟨[2,3],[],[[2]],[([3], .box [.v (.s 64)])]⟩)] .n)) .n))) [.s 46] [.s 64] (fun x=>QQ x.1) Tryz.func185 rfl (by kernel_rfl)
def QR (a0:A1):Option (Bool):=
 (some (if(a0.Line.Types==2)=true then true else a0.Line.Types==4)).bind fun b1=>
 some b1
def lw:CE TE Tryz.prog I0:=AK [] Ab Ad 9 49 Tryz.f49 (Tryz.f49.body.getD .skip) .n [.s 73] [.k (.bool)] (fun x=>QR x.1) Tryz.func49 rfl (by kernel_rfl)
def hC:Option (Int):=
 some (-1:Int)
def UL (a0:List (A1)) (a1:List UInt8) (i_t5_3:Int):Option ((Int)⊕(Unit⊕Int)):=
 (if(decide (i_t5_3<(a0.length:Int)))=true then
  (idx a0 i_t5_3).bind fun e7=>
  (if(e7.Name==a1)=true then
   some (.inr (.inr i_t5_3))
  else
   some (.inl (Ac (i_t5_3+1))))
 else
  some (.inr (.inl ())))
def QS (a0:List (A1)) (a1:List UInt8):Option (Int):=
 jn (fun(v:Unit)=>hC) (fun jJ1=>
 (iter (fun(v:Int)=>UL a0 a1 v) FU (0:Int)).bind (Sum.elim (fun o0=>jJ1 ()) (fun o1=>some o1)))
def ly:CE TE Tryz.prog I0:=AK [] Ab Ad 9 19 Tryz.f19 (Tryz.f19.body.getD .skip) (.s .n (.j ⟨[],[],[],[]⟩ (.s .n (.l ⟨[0,1],[(5, .c (.v (.k (.int .i64))))],[],[]⟩ [(1,⟨[],[],[],[]⟩),(0,⟨[],[(4, .c (.v (.k (.int .i64))))],[],[]⟩)] .n)) .n)) [.k (.lst 73), .k (.str)] [.k (.int .i64)] (fun x=>QS x.1 x.2.1) Tryz.func19 rfl (by kernel_rfl)
def di:Option (Bool):=
 some false
def QT (a0:List (A1)) (a1:List UInt8) (i_t5_3:Int):Option ((Int)⊕(Unit⊕Bool)):=
 (if(decide (i_t5_3<(a0.length:Int)))=true then
  (idx a0 i_t5_3).bind fun e7=>
  (gd ((e7.Name==a1)==true) (idx a0 i_t5_3)).bind fun e8=>
  (some (if(e7.Name==a1)=true then e8.Token else false)).bind fun b9=>
  (if b9=true then
   some (.inr (.inr true))
  else
   some (.inl (Ac (i_t5_3+1))))
 else
  some (.inr (.inl ())))
def N5 (a0:List (A1)) (a1:List UInt8):Option (Bool):=
 jn (fun(v:Unit)=>di) (fun jJ1=>
 (iter (fun(v:Int)=>QT a0 a1 v) FU (0:Int)).bind (Sum.elim (fun o0=>jJ1 ()) (fun o1=>some o1)))
def hH:CE TE Tryz.prog I0:=AK [] Ab Ad 9 50 Tryz.f50 (Tryz.f50.body.getD .skip) (.s .n (.j ⟨[],[],[],[]⟩ (.s .n (.l ⟨[0,1],[(5, .c (.v (.k (.int .i64))))],[],[]⟩ [(1,⟨[],[],[],[]⟩),(0,⟨[],[(4, .c (.v (.k (.bool))))],[],[]⟩)] .n)) .n)) [.k (.lst 73), .k (.str)] [.k (.bool)] (fun x=>N5 x.1 x.2.1) Tryz.func50 rfl (by kernel_rfl)
def DT (a0:Int) (a1:Int) (a2:Int):Option (Bool):=
 (some (if(decide (a1≤a0))=true then decide (a0≤a2)else false)).bind fun b1=>
 some b1
def MM:CE TE Tryz.prog I0:=AK [] Ab Ad 9 21 Tryz.f21 (Tryz.f21.body.getD .skip) .n [.k (.int .i64), .k (.int .i64), .k (.int .i64)] [.k (.bool)] (fun x=>DT x.1 x.2.1 x.2.2.1) Tryz.func21 rfl (by kernel_rfl)
def dj:Option (Bool):=
 some true
def QU (a0:A6 (Int)) (i_t3_3:Int):Option ((Int)⊕(Unit⊕Bool)):=
 (if(decide (i_t3_3<6))=true then
  (idx a0.l i_t3_3).bind fun e7=>
  (idx a0.l i_t3_3).bind fun e8=>
  (gd ((decide (e8<0))==false) (idx a0.l i_t3_3)).bind fun e9=>
  (gd ((decide (e8<0))==false) (idx a0.l i_t3_3)).bind fun e10=>
  (some (if(decide (e8<0))=true then true else decide (1000000<e10))).bind fun b11=>
  (if b11=true then
   some (.inr (.inr false))
  else
   some (.inl (Ac (i_t3_3+1))))
 else
  some (.inr (.inl ())))
def N6 (a0:A6 (Int)):Option (Bool):=
 jn (fun(v:Unit)=>dj) (fun jJ1=>
 (iter (fun(v:Int)=>QU a0 v) FU (0:Int)).bind (Sum.elim (fun o0=>jJ1 ()) (fun o1=>some o1)))
def hJ:CE TE Tryz.prog I0:=AK [] Ab Ad 9 51 Tryz.f51 (Tryz.f51.body.getD .skip) (.s .n (.j ⟨[],[],[],[]⟩ (.s .n (.l ⟨[1],[(3, .c (.v (.k (.int .i64))))],[[1]],[]⟩ [(1,⟨[],[],[],[]⟩),(0,⟨[],[(2, .c (.v (.k (.bool))))],[],[]⟩)] .n)) .n)) [.s 46] [.k (.bool)] (fun x=>N6 x.1) Tryz.func51 rfl (by kernel_rfl)
def QV:Option (Int):=
 some (-1:Int)
def QW (a0:Ao) (a1:Int) (i_t5_3:Int):Option ((Int)⊕(Unit⊕Int)):=
 (if(decide (i_t5_3<(a0.Objects.length:Int)))=true then
  (idx a0.Objects i_t5_3).bind fun e7=>
  (if(e7.Id==a1)=true then
   some (.inr (.inr i_t5_3))
  else
   some (.inl (Ac (i_t5_3+1))))
 else
  some (.inr (.inl ())))
def N7 (a0:Ao) (a1:Int):Option (Int):=
 jn (fun(v:Unit)=>QV) (fun jJ1=>
 (iter (fun(v:Int)=>QW a0 a1 v) FU (0:Int)).bind (Sum.elim (fun o0=>jJ1 ()) (fun o1=>some o1)))
def hP:CE TE Tryz.prog I0:=AK [] Ab Ad 9 160 Tryz.f160 (Tryz.f160.body.getD .skip) (.s .n (.j ⟨[],[],[],[]⟩ (.s .n (.l ⟨[1,2],[(5, .c (.v (.k (.int .i64))))],[[2]],[]⟩ [(1,⟨[],[],[],[]⟩),(0,⟨[],[(4, .c (.v (.k (.int .i64))))],[],[]⟩)] .n)) .n)) [.s 31, .k (.int .i64)] [.k (.int .i64)] (fun x=>N7 x.1 x.2.1) Tryz.func160 rfl (by kernel_rfl)
def dk (k_t5_1:Int):Option (Int):=
 some k_t5_1
def Jx (i_t6_6:Int) (k_t5_10:Int):Option ((Int×Int)⊕(Int)):=
 some (.inl (k_t5_10,(Ac (i_t6_6+1))))
def K0 (a0:List (Int)) (a1:Int) (k_t5_5:Int) (i_t6_6:Int):Option ((Int×Int)⊕(Int)):=
 (if(decide (i_t6_6<(a0.length:Int)))=true then
  jn (fun(v:Int)=>Jx i_t6_6 v) (fun jJ11=>
  (idx a0 i_t6_6).bind fun e12=>
  (if(e12==a1)=true then
   jJ11 (Ac (k_t5_5+1))
  else
   jJ11 k_t5_5))
 else
  some (.inr k_t5_5))
def Hs (a0:List (Int)) (a1:Int):Option (Int):=
 jn (fun(v:Int)=>dk v) (fun jJ2=>
 (iter (fun(v:Int×Int)=>K0 a0 a1 v.1 v.2) FU ((0:Int),(0:Int))).bind (fun o0=>jJ2 o0))
def hU:CE TE Tryz.prog I0:=AK [] Ab Ad 9 86 Tryz.f86 (Tryz.f86.body.getD .skip) (.s .n (.s .n (.j ⟨[],[(5, .c (.v (.k (.int .i64))))],[],[]⟩ (.s .n (.l ⟨[0,1],[(5, .c (.v (.k (.int .i64)))),(6, .c (.v (.k (.int .i64))))],[],[]⟩ [(1,⟨[],[(5, .c (.v (.k (.int .i64))))],[],[]⟩)] (.s .n (.j ⟨[0,1,6],[(5, .c (.v (.k (.int .i64))))],[],[]⟩ .n .n)))) .n))) [.k (.lst 3), .k (.int .i64)] [.k (.int .i64)] (fun x=>Hs x.1 x.2.1) Tryz.func86 rfl (by kernel_rfl)
def hX (a0:List (Int)) (a1:Int) (r:Int):Prop:=AQ Tryz.prog I0 86 [vL (eI .i64) a0,vI a1] (· =vI r)
theorem QX {a0:List (Int)} {a1:Int} {r:Int} (h:Hs a0 a1=some r):hX a0 a1 r:=Cz (by kernel_rfl) (hU.ok (a0,a1,()) r h)
def pv:Option (Bool):=
 some true
def bt (a0:A3 (Int)) (i_t3_3:Int):Option ((Int)⊕(Unit⊕Bool)):=
 (if(decide (i_t3_3<3))=true then
  (idx a0.l i_t3_3).bind fun e7=>
  (idx a0.l i_t3_3).bind fun e8=>
  (gd ((decide (e8<0))==false) (idx a0.l i_t3_3)).bind fun e9=>
  (gd ((decide (e8<0))==false) (idx a0.l i_t3_3)).bind fun e10=>
  (some (if(decide (e8<0))=true then true else decide (1000000<e10))).bind fun b11=>
  (if b11=true then
   some (.inr (.inr false))
  else
   some (.inl (Ac (i_t3_3+1))))
 else
  some (.inr (.inl ())))
def dl (a0:A3 (Int)):Option (Bool):=
 jn (fun(v:Unit)=>pv) (fun jJ1=>
 (iter (fun(v:Int)=>bt a0 v) FU (0:Int)).bind (Sum.elim (fun o0=>jJ1 ()) (fun o1=>some o1)))
def rU:CE TE Tryz.prog I0:=AK [] Ab Ad 9 87 Tryz.f87 (Tryz.f87.body.getD .skip) (.s .n (.j ⟨[],[],[],[]⟩ (.s .n (.l ⟨[1],[(3, .c (.v (.k (.int .i64))))],[[1]],[]⟩ [(1,⟨[],[],[],[]⟩),(0,⟨[],[(2, .c (.v (.k (.bool))))],[],[]⟩)] .n)) .n)) [.s 32] [.k (.bool)] (fun x=>dl x.1) Tryz.func87 rfl (by kernel_rfl)
def QY (a0:AO):Option (AO):=
 some ({{{a0 with Attack:=(-1:Int)}with Blocked:=false}with Blocks:=(0:Int)})
def lz:CE TE Tryz.prog I0:=AK [] Ab Ad 9 88 Tryz.f88 (Tryz.f88.body.getD .skip) .n [.s 61] [.s 61] (fun x=>QY x.1) Tryz.func88 rfl (by kernel_rfl)
def N8 (a0:AO):Option (AO):=
 some ({{{a0 with Damage:=(0:Int)}with Deadly:=false}with Shield:=(0:Int)})
def hY:CE TE Tryz.prog I0:=AK [] Ab Ad 9 89 Tryz.f89 (Tryz.f89.body.getD .skip) .n [.s 61] [.s 61] (fun x=>N8 x.1) Tryz.func89 rfl (by kernel_rfl)
def YQ (n_t5_1:Int):Option (Int):=
 some n_t5_1
def Ib (i_t6_6:Int) (n_t5_10:Int):Option ((Int×Int)⊕(Int)):=
 some (.inl (n_t5_10,(Ac (i_t6_6+1))))
def Jy (a0:Ao) (a1:Int) (n_t5_5:Int) (i_t6_6:Int):Option ((Int×Int)⊕(Int)):=
 (if(decide (i_t6_6<(a0.Stack.length:Int)))=true then
  jn (fun(v:Int)=>Ib i_t6_6 v) (fun jJ11=>
  (idx a0.Stack i_t6_6).bind fun e12=>
  (gd ((e12.Kind==1)==true) (idx a0.Stack i_t6_6)).bind fun e13=>
  (some (if(e12.Kind==1)=true then e13.Id==a1 else false)).bind fun b14=>
  (if b14=true then
   jJ11 (Ac (n_t5_5+1))
  else
   jJ11 n_t5_5))
 else
  some (.inr n_t5_5))
def Ic (a0:Ao) (a1:Int):Option (Int):=
 jn (fun(v:Int)=>YQ v) (fun jJ2=>
 (iter (fun(v:Int×Int)=>Jy a0 a1 v.1 v.2) FU ((0:Int),(0:Int))).bind (fun o0=>jJ2 o0))
def dm:CE TE Tryz.prog I0:=AK [] Ab Ad 9 90 Tryz.f90 (Tryz.f90.body.getD .skip) (.s .n (.s .n (.j ⟨[],[(5, .c (.v (.k (.int .i64))))],[],[]⟩ (.s .n (.l ⟨[1,2],[(5, .c (.v (.k (.int .i64)))),(6, .c (.v (.k (.int .i64))))],[[2]],[]⟩ [(1,⟨[],[(5, .c (.v (.k (.int .i64))))],[],[]⟩)] (.s .n (.j ⟨[1,2,6],[(5, .c (.v (.k (.int .i64))))],[[2]],[]⟩ .n .n)))) .n))) [.s 31, .k (.int .i64)] [.k (.int .i64)] (fun x=>Ic x.1 x.2.1) Tryz.func90 rfl (by kernel_rfl)
def dn (a0:Ao) (a1:Int) (r:Int):Prop:=AQ Tryz.prog I0 90 [vA A4 a0,vI a1] (· =vI r)
theorem YR {a0:Ao} {a1:Int} {r:Int} (h:Ic a0 a1=some r):dn a0 a1 r:=Cz (by kernel_rfl) (dm.ok (a0,a1,()) r h)
def GB (a0:List (Int)):Option ((List (Int))):=
 (app 8 ([]:List (Int)) a0).bind fun l1=>
 some l1
def lA:CE TE Tryz.prog I0:=AK [] Ab Ad 9 126 Tryz.f126 (Tryz.f126.body.getD .skip) .n [.k (.lst 3)] [.k (.lst 3)] (fun x=>GB x.1) Tryz.func126 rfl (by kernel_rfl)
def Vc:Option (Bool):=
 some true
def LJ (a0:List (BI)) (a1:List (BI)) (i_t5_4:Int):Option ((Int)⊕(Unit⊕Bool)):=
 (if(decide (i_t5_4<(a0.length:Int)))=true then
  (idx a0 i_t5_4).bind fun e8=>
  (idx a1 i_t5_4).bind fun e9=>
  (if(!(e8==e9))=true then
   some (.inr (.inr false))
  else
   some (.inl (Ac (i_t5_4+1))))
 else
  some (.inr (.inl ())))
def E9 (a0:List (BI)) (a1:List (BI)):Option (Bool):=
 (if((a0.length:Int) != (a1.length:Int))=true then
  some false
 else
  jn (fun(v:Unit)=>Vc) (fun jJ2=>
  (iter (fun(v:Int)=>LJ a0 a1 v) FU (0:Int)).bind (Sum.elim (fun o0=>jJ2 ()) (fun o1=>some o1))))
def MN:CE TE Tryz.prog I0:=AK [] Ab Ad 9 127 Tryz.f127 (Tryz.f127.body.getD .skip) (.s .n (.s .n (.j ⟨[],[],[],[]⟩ (.s .n (.l ⟨[0,1],[(5, .c (.v (.k (.int .i64))))],[],[]⟩ [(1,⟨[],[],[],[]⟩),(0,⟨[],[(4, .c (.v (.k (.bool))))],[],[]⟩)] .n)) .n))) [.k (.lst 151), .k (.lst 151)] [.k (.bool)] (fun x=>E9 x.1 x.2.1) Tryz.func127 rfl (by kernel_rfl)
def pw:Option (Bool):=
 some true
def bu (a0:List (Int)) (i_t3_3:Int):Option ((Int)⊕(Unit⊕Bool)):=
 (if(decide (i_t3_3<(a0.length:Int)))=true then
  (idx a0 (Ac (i_t3_3 - 1))).bind fun e7=>
  (idx a0 i_t3_3).bind fun e8=>
  (if(decide (e8≤e7))=true then
   some (.inr (.inr false))
  else
   some (.inl (Ac (i_t3_3+1))))
 else
  some (.inr (.inl ())))
def dp (a0:List (Int)):Option (Bool):=
 jn (fun(v:Unit)=>pw) (fun jJ1=>
 (iter (fun(v:Int)=>bu a0 v) FU (1:Int)).bind (Sum.elim (fun o0=>jJ1 ()) (fun o1=>some o1)))
def rV:CE TE Tryz.prog I0:=AK [] Ab Ad 9 56 Tryz.f56 (Tryz.f56.body.getD .skip) (.s .n (.j ⟨[],[],[],[]⟩ (.s .n (.l ⟨[0],[(3, .c (.v (.k (.int .i64))))],[],[]⟩ [(1,⟨[],[],[],[]⟩),(0,⟨[],[(2, .c (.v (.k (.bool))))],[],[]⟩)] .n)) .n)) [.k (.lst 3)] [.k (.bool)] (fun x=>dp x.1) Tryz.func56 rfl (by kernel_rfl)
def Ie (a0:Int):Option ((List UInt8)):=
 (some (if(decide (a0<1))=true then true else decide (17<a0))).bind fun b1=>
 (if b1=true then
  some ([]:List UInt8)
 else
  (idx (⟨FL,J8,J9,Ka,Kb,NY,Ho,NZ,Kc,FM,gQ,XE,bn,Pz,cX,Hp,MG⟩:yH (List UInt8)).l (Ac (a0 - 1))).bind fun e3=>
  (idx ((⟨FL,J8,J9,Ka,Kb,NY,Ho,NZ,Kc,FM,gQ,XE,bn,Pz,cX,Hp,MG⟩:yH (List UInt8)).l) (Ac (a0 - 1))).bind fun e4=>
  some e4)
def QZ:CE TE Tryz.prog I0:=AK [] Ab Ad 9 13 Tryz.f13 (Tryz.f13.body.getD .skip) .n [.k (.int .i64)] [.k (.str)] (fun x=>Ie x.1) Tryz.func13 rfl (by kernel_rfl)
def dq (a0:Int) (r:(List UInt8)):Prop:=AQ Tryz.prog I0 13 [vI a0] (· =vS r)
theorem OH {a0:Int} {r:(List UInt8)} (h:Ie a0=some r):dq a0 r:=Cz (by kernel_rfl) (QZ.ok (a0,()) r h)
def hZ (a0:Int):Option ((List UInt8)):=
 (nJ a0).bind fun r1=>
 some r1
def lB:CE TE Tryz.prog I0:=AK [uG] Ab Ad 9 26 Tryz.f26 (Tryz.f26.body.getD .skip) .n [.k (.int .i64)] [.k (.str)] (fun x=>hZ x.1) Tryz.func26 rfl (by kernel_rfl)
def YS (vt8_1:Int):Option (Int):=
 some vt8_1
def YT (jJ2:(Int)→Option (Int)):Option (Int):=
 jJ2 (-1:Int)
def YU (a0:Ao) (a1:Int) (vt8_5:Int):Option ((Int)⊕(Unit⊕Int)):=
 (if(decide (vt8_5<(a0.Objects.length:Int)))=true then
  (idx a0.Objects vt8_5).bind fun e9=>
  (if(e9.Id==a1)=true then
   some (.inr (.inr vt8_5))
  else
   some (.inl (Ac (vt8_5+1))))
 else
  some (.inr (.inl ())))
def XN (a0:Ao) (a1:Int):Option (Int):=
 jn (fun(v:Int)=>YS v) (fun jJ2=>
 jn (fun(v:Unit)=>YT jJ2) (fun jJ3=>
 (iter (fun(v:Int)=>YU a0 a1 v) FU (0:Int)).bind (Sum.elim (fun o0=>jJ3 ()) (fun o1=>jJ2 o1))))
def dt:CE TE Tryz.prog I0:=AK [] Ab Ad 9 62 Tryz.f62 (Tryz.f62.body.getD .skip) (.s .n (.s (.r [] [] (.j 3 ⟨[],[(8, .c (.v (.k (.int .i64))))],[],[]⟩ (.s .n (.j ⟨[],[],[[2],[3]],[]⟩ (.s .n (.l ⟨[0,1,7],[(8, .c (.v (.k (.int .i64))))],[[2],[3]],[]⟩ [(1,⟨[],[],[[2],[3]],[]⟩),(0,⟨[],[(4, .c (.v (.k (.int .i64))))],[[2],[3]],[]⟩)] (.s .n (.s .n (.s (.s .n (.s (.r [] [] (.c 5 .n .n)) .n)) .n))))) .n)) .n)) .n)) [.s 31, .k (.int .i64)] [.k (.int .i64)] (fun x=>XN x.1 x.2.1) Tryz.func62 rfl (by kernel_rfl)
def Fa (a0:Be):Option (Bool):=
 (some (if(decide (1≤a0.Amount))=true then decide (a0.Amount≤1000000)else false)).bind fun b1=>
 some b1
def Fb:CE TE Tryz.prog I0:=AK [] Ab Ad 9 32 Tryz.f32 (Tryz.f32.body.getD .skip) .n [.s 34] [.k (.bool)] (fun x=>Fa x.1) Tryz.func32 rfl (by kernel_rfl)
def De (a0:Ao) (a1:Int):Option (Bool):=
 (some (if(decide (0≤a1))=true then decide (a1<(a0.Players.length:Int))else false)).bind fun b1=>
 (gd (b1==true) (idx a0.Players a1)).bind fun e2=>
 (some (if b1=true then !e2.Lost else false)).bind fun b3=>
 some b3
def If:CE TE Tryz.prog I0:=AK [] Ab Ad 9 31 Tryz.f31 (Tryz.f31.body.getD .skip) .n [.s 31, .k (.int .i64)] [.k (.bool)] (fun x=>De x.1 x.2.1) Tryz.func31 rfl (by kernel_rfl)
end Go.PL
