/- Functions of the program, as partial functions in Lean, with proofs. -/
import Derived.Test.YtiddnfpjgojoaaaGreatDoorPlEdB
namespace Go.PL
open Go Go.RowKit Go.Proofs
set_option maxRecDepth 100000
set_option linter.all false
set_option maxHeartbeats 4000000
attribute [local irreducible] Aj BM By
def NT (a0:BA):Option (Bool):=
 (some (if(a0.Zone != 0)=true then true else a0.Counter != 0)).bind fun b1=>
 (if b1=true then
  some false
 else
  (some (if(a0.Do==2)=true then true else a0.Do==4)).bind fun b3=>
  (if b3=true then
   (some (if(decide (1≤a0.N))=true then decide (a0.N≤99)else false)).bind fun b5=>
   some b5
  else
   some (a0.N==0)))
def gH:CE TE Tryz.prog I0:=AI [] Ab Ad 9 121 Tryz.f121 (Tryz.f121.body.getD .skip) .n [.s 111] [.k (.bool)] (fun x=>NT x.1) Tryz.func121 rfl (by kernel_rfl)
def QJ (a0:Int):Option ((List UInt8)):=
 (some (if(decide (a0<1))=true then true else decide (26<a0))).bind fun b1=>
 (if b1=true then
  some ([]:List UInt8)
 else
  (idx ([FG,IS,JW,JX,IT,JY,JZ,NN,Hi,NO,J0,FH,VI,Qz,IU,QA,KH,F0,QB,QC,KI,KJ,QD,VJ,KK,Hj]:List (List UInt8)) (Ac (a0 - 1))).bind fun e3=>
  (idx ([FG,IS,JW,JX,IT,JY,JZ,NN,Hi,NO,J0,FH,VI,Qz,IU,QA,KH,F0,QB,QC,KI,KJ,QD,VJ,KK,Hj]:List (List UInt8)) (Ac (a0 - 1))).bind fun e4=>
  some e4)
def kW:CE TE Tryz.prog I0:=AI [] Ab Ad 9 152 Tryz.f152 (Tryz.f152.body.getD .skip) .n [.k (.int .i64)] [.k (.str)] (fun x=>QJ x.1) Tryz.func152 rfl (by kernel_rfl)
def AK (vt29_14:Bool):Option ((List UInt8)):=
 (if vt29_14=true then
  some ([]:List UInt8)
 else
  some B0)
def BC (a0:Int) (vt14_5:Bool):Option ((List UInt8)):=
 (if vt14_5=true then
  some C7
 else
  (if(a0==12)=true then
   some C8
  else
   (if(a0==13)=true then
    some EG
   else
    (if(a0==14)=true then
     some HW
    else
     (if(a0==18)=true then
      some C9
     else
      (if(a0==20)=true then
       some HX
      else
       (if(a0==21)=true then
        some HY
       else
        jn (fun(v:Bool)=>AK v) (fun jJ15=>
        (if(a0==23)=true then
         jJ15 (a0==23)
        else
         jJ15 (a0==24))))))))))
def C3 (a0:Int) (vt4_1:Bool):Option ((List UInt8)):=
 (if vt4_1=true then
  some UA
 else
  (if(a0==3)=true then
   some Mv
  else
   jn (fun(v:Bool)=>BC a0 v) (fun jJ6=>
   (if(a0==10)=true then
    jJ6 (a0==10)
   else
    jJ6 (a0==11)))))
def QK (a0:Int):Option ((List UInt8)):=
 jn (fun(v:Bool)=>C3 a0 v) (fun jJ2=>
 (if(a0==2)=true then
  jJ2 (a0==2)
 else
  (if(a0==8)=true then
   jJ2 (a0==8)
  else
   (if(a0==9)=true then
    jJ2 (a0==9)
   else
    (if(a0==15)=true then
     jJ2 (a0==15)
    else
     (if(a0==16)=true then
      jJ2 (a0==16)
     else
      (if(a0==17)=true then
       jJ2 (a0==17)
      else
       jJ2 (a0==25))))))))
def kX:CE TE Tryz.prog I0:=AI [] Ab Ad 9 182 Tryz.f182 (Tryz.f182.body.getD .skip) (.s .n (.s (.s .n (.j ⟨[3],[(4, .c (.v (.k (.bool))))],[],[]⟩ .n (.i .n (.s .n (.i .n (.j ⟨[3],[(14, .c (.v (.k (.bool))))],[],[]⟩ .n (.i .n (.s .n (.i .n (.s .n (.i .n (.s .n (.i .n (.s .n (.i .n (.s .n (.i .n (.s .n (.i .n (.j ⟨[],[(29, .c (.v (.k (.bool))))],[],[]⟩ .n .n)))))))))))))))))))) .n)) [.k (.int .i64)] [.k (.str)] (fun x=>QK x.1) Tryz.func182 rfl (by kernel_rfl)
def G7 (a0:Int):Option (Bool):=
 (some (if(a0==3)=true then true else a0==8)).bind fun b1=>
 some b1
def Xw:CE TE Tryz.prog I0:=AI [] Ab Ad 9 183 Tryz.f183 (Tryz.f183.body.getD .skip) .n [.k (.int .i64)] [.k (.bool)] (fun x=>G7 x.1) Tryz.func183 rfl (by kernel_rfl)
def MB (a0:Int):Option ((List UInt8)):=
 (if(a0==0)=true then
  some rA
 else
  (if(a0==1)=true then
   some o8
  else
   (if(a0==2)=true then
    some kG
   else
    some ([]:List UInt8))))
def Xx:CE TE Tryz.prog I0:=AI [] Ab Ad 9 155 Tryz.f155 (Tryz.f155.body.getD .skip) .n [.k (.int .i64)] [.k (.str)] (fun x=>MB x.1) Tryz.func155 rfl (by kernel_rfl)
def gI (b3_3:Bs):Option (Bs):=
 some b3_3
def KM (a0:A6 (Int)) (i_t4_8:Int) (b3_9:Bs):Option ((Int×Bs)⊕(Bs)):=
 (if(decide (i_t4_8<5))=true then
  (idx a0.l (Ac (i_t4_8+1))).bind fun e13=>
  (idx a0.l (Ac (i_t4_8+1))).bind fun e14=>
  (idx b3_9.Color.l i_t4_8).bind fun e15=>
  (idx (b3_9.Color.l) i_t4_8).bind fun e16=>
  some (.inl ((Ac (i_t4_8+1)),({b3_9 with Color:=b3_9.Color.set (i_t4_8).toNat e14})))
 else
  some (.inr b3_9))
def QL (a0:A6 (Int)):Option (Bs):=
 (idx a0.l (0:Int)).bind fun e1=>
 (idx a0.l (0:Int)).bind fun e2=>
 jn (fun(v:Bs)=>gI v) (fun jJ4=>
 (iter (fun(v:Int×Bs)=>KM a0 v.1 v.2) FU ((0:Int),(⟨e2,0,(⟨0,0,0,0,0⟩:A5 (Int))⟩:Bs))).bind (fun o0=>jJ4 o0))
def kY:CE TE Tryz.prog I0:=AI [] Ab Ad 9 185 Tryz.f185 (Tryz.f185.body.getD .skip) (.s .n (.s .n (.j ⟨[2,3],[],[[2]],[([3], .box [.v (.s 64)])]⟩ (.s .n (.l ⟨[1,2,3],[(4, .c (.v (.k (.int .i64))))],[[1],[2]],[([3], .box [.v (.s 64)])]⟩ [(1,⟨[2,3],[],[[2]],[([3], .box [.v (.s 64)])]⟩)] .n)) .n))) [.s 46] [.s 64] (fun x=>QL x.1) Tryz.func185 rfl (by kernel_rfl)
def QM (a0:A0):Option (Bool):=
 (some (if(a0.Line.Types==2)=true then true else a0.Line.Types==4)).bind fun b1=>
 some b1
def kZ:CE TE Tryz.prog I0:=AI [] Ab Ad 9 49 Tryz.f49 (Tryz.f49.body.getD .skip) .n [.s 73] [.k (.bool)] (fun x=>QM x.1) Tryz.func49 rfl (by kernel_rfl)
def gJ:Option (Int):=
 some (-1:Int)
def UD (a0:List (A0)) (a1:List UInt8) (i_t5_3:Int):Option ((Int)⊕(Unit⊕Int)):=
 (if(decide (i_t5_3<(a0.length:Int)))=true then
  (idx a0 i_t5_3).bind fun e7=>
  (if(e7.Name==a1)=true then
   some (.inr (.inr i_t5_3))
  else
   some (.inl (Ac (i_t5_3+1))))
 else
  some (.inr (.inl ())))
def QN (a0:List (A0)) (a1:List UInt8):Option (Int):=
 jn (fun(v:Unit)=>gJ) (fun jJ1=>
 (iter (fun(v:Int)=>UD a0 a1 v) FU (0:Int)).bind (Sum.elim (fun o0=>jJ1 ()) (fun o1=>some o1)))
def k7:CE TE Tryz.prog I0:=AI [] Ab Ad 9 19 Tryz.f19 (Tryz.f19.body.getD .skip) (.s .n (.j ⟨[],[],[],[]⟩ (.s .n (.l ⟨[0,1],[(5, .c (.v (.k (.int .i64))))],[],[]⟩ [(1,⟨[],[],[],[]⟩),(0,⟨[],[(4, .c (.v (.k (.int .i64))))],[],[]⟩)] .n)) .n)) [.k (.lst 73), .k (.str)] [.k (.int .i64)] (fun x=>QN x.1 x.2.1) Tryz.func19 rfl (by kernel_rfl)
def cT:Option (Bool):=
 some false
def QO (a0:List (A0)) (a1:List UInt8) (i_t5_3:Int):Option ((Int)⊕(Unit⊕Bool)):=
 (if(decide (i_t5_3<(a0.length:Int)))=true then
  (idx a0 i_t5_3).bind fun e7=>
  (gd ((e7.Name==a1)==true) (idx a0 i_t5_3)).bind fun e8=>
  (some (if(e7.Name==a1)=true then e8.Token else false)).bind fun b9=>
  (if b9=true then
   some (.inr (.inr true))
  else
   some (.inl (Ac (i_t5_3+1))))
 else
  some (.inr (.inl ())))
def NU (a0:List (A0)) (a1:List UInt8):Option (Bool):=
 jn (fun(v:Unit)=>cT) (fun jJ1=>
 (iter (fun(v:Int)=>QO a0 a1 v) FU (0:Int)).bind (Sum.elim (fun o0=>jJ1 ()) (fun o1=>some o1)))
def gK:CE TE Tryz.prog I0:=AI [] Ab Ad 9 50 Tryz.f50 (Tryz.f50.body.getD .skip) (.s .n (.j ⟨[],[],[],[]⟩ (.s .n (.l ⟨[0,1],[(5, .c (.v (.k (.int .i64))))],[],[]⟩ [(1,⟨[],[],[],[]⟩),(0,⟨[],[(4, .c (.v (.k (.bool))))],[],[]⟩)] .n)) .n)) [.k (.lst 73), .k (.str)] [.k (.bool)] (fun x=>NU x.1 x.2.1) Tryz.func50 rfl (by kernel_rfl)
def DQ (a0:Int) (a1:Int) (a2:Int):Option (Bool):=
 (some (if(decide (a1≤a0))=true then decide (a0≤a2)else false)).bind fun b1=>
 some b1
def MC:CE TE Tryz.prog I0:=AI [] Ab Ad 9 21 Tryz.f21 (Tryz.f21.body.getD .skip) .n [.k (.int .i64), .k (.int .i64), .k (.int .i64)] [.k (.bool)] (fun x=>DQ x.1 x.2.1 x.2.2.1) Tryz.func21 rfl (by kernel_rfl)
def cU:Option (Bool):=
 some true
def QP (a0:A6 (Int)) (i_t3_3:Int):Option ((Int)⊕(Unit⊕Bool)):=
 (if(decide (i_t3_3<6))=true then
  (idx a0.l i_t3_3).bind fun e7=>
  (idx a0.l i_t3_3).bind fun e8=>
  (gd ((decide (e8<0))==false) (idx a0.l i_t3_3)).bind fun e9=>
  (gd ((decide (e8<0))==false) (idx a0.l i_t3_3)).bind fun e10=>
  (some (if(decide (e8<0))=true then true else decide (1000000<e10))).bind fun b11=>
  (if b11=true then
   some (.inr (.inr false))
  else
   some (.inl (Ac (i_t3_3+1))))
 else
  some (.inr (.inl ())))
def NV (a0:A6 (Int)):Option (Bool):=
 jn (fun(v:Unit)=>cU) (fun jJ1=>
 (iter (fun(v:Int)=>QP a0 v) FU (0:Int)).bind (Sum.elim (fun o0=>jJ1 ()) (fun o1=>some o1)))
def gL:CE TE Tryz.prog I0:=AI [] Ab Ad 9 51 Tryz.f51 (Tryz.f51.body.getD .skip) (.s .n (.j ⟨[],[],[],[]⟩ (.s .n (.l ⟨[1],[(3, .c (.v (.k (.int .i64))))],[[1]],[]⟩ [(1,⟨[],[],[],[]⟩),(0,⟨[],[(2, .c (.v (.k (.bool))))],[],[]⟩)] .n)) .n)) [.s 46] [.k (.bool)] (fun x=>NV x.1) Tryz.func51 rfl (by kernel_rfl)
def QQ:Option (Int):=
 some (-1:Int)
def QR (a0:Ao) (a1:Int) (i_t5_3:Int):Option ((Int)⊕(Unit⊕Int)):=
 (if(decide (i_t5_3<(a0.Objects.length:Int)))=true then
  (idx a0.Objects i_t5_3).bind fun e7=>
  (if(e7.Id==a1)=true then
   some (.inr (.inr i_t5_3))
  else
   some (.inl (Ac (i_t5_3+1))))
 else
  some (.inr (.inl ())))
def NW (a0:Ao) (a1:Int):Option (Int):=
 jn (fun(v:Unit)=>QQ) (fun jJ1=>
 (iter (fun(v:Int)=>QR a0 a1 v) FU (0:Int)).bind (Sum.elim (fun o0=>jJ1 ()) (fun o1=>some o1)))
def gM:CE TE Tryz.prog I0:=AI [] Ab Ad 9 160 Tryz.f160 (Tryz.f160.body.getD .skip) (.s .n (.j ⟨[],[],[],[]⟩ (.s .n (.l ⟨[1,2],[(5, .c (.v (.k (.int .i64))))],[[2]],[]⟩ [(1,⟨[],[],[],[]⟩),(0,⟨[],[(4, .c (.v (.k (.int .i64))))],[],[]⟩)] .n)) .n)) [.s 31, .k (.int .i64)] [.k (.int .i64)] (fun x=>NW x.1 x.2.1) Tryz.func160 rfl (by kernel_rfl)
def cV (k_t5_1:Int):Option (Int):=
 some k_t5_1
def Jn (i_t6_6:Int) (k_t5_10:Int):Option ((Int×Int)⊕(Int)):=
 some (.inl (k_t5_10,(Ac (i_t6_6+1))))
def KN (a0:List (Int)) (a1:Int) (k_t5_5:Int) (i_t6_6:Int):Option ((Int×Int)⊕(Int)):=
 (if(decide (i_t6_6<(a0.length:Int)))=true then
  jn (fun(v:Int)=>Jn i_t6_6 v) (fun jJ11=>
  (idx a0 i_t6_6).bind fun e12=>
  (if(e12==a1)=true then
   jJ11 (Ac (k_t5_5+1))
  else
   jJ11 k_t5_5))
 else
  some (.inr k_t5_5))
def Ho (a0:List (Int)) (a1:Int):Option (Int):=
 jn (fun(v:Int)=>cV v) (fun jJ2=>
 (iter (fun(v:Int×Int)=>KN a0 a1 v.1 v.2) FU ((0:Int),(0:Int))).bind (fun o0=>jJ2 o0))
def gN:CE TE Tryz.prog I0:=AI [] Ab Ad 9 86 Tryz.f86 (Tryz.f86.body.getD .skip) (.s .n (.s .n (.j ⟨[],[(5, .c (.v (.k (.int .i64))))],[],[]⟩ (.s .n (.l ⟨[0,1],[(5, .c (.v (.k (.int .i64)))),(6, .c (.v (.k (.int .i64))))],[],[]⟩ [(1,⟨[],[(5, .c (.v (.k (.int .i64))))],[],[]⟩)] (.s .n (.j ⟨[0,1,6],[(5, .c (.v (.k (.int .i64))))],[],[]⟩ .n .n)))) .n))) [.k (.lst 3), .k (.int .i64)] [.k (.int .i64)] (fun x=>Ho x.1 x.2.1) Tryz.func86 rfl (by kernel_rfl)
def gO (a0:List (Int)) (a1:Int) (r:Int):Prop:=AP Tryz.prog I0 86 [vL (eI .i64) a0,vI a1] (· =vI r)
theorem QS {a0:List (Int)} {a1:Int} {r:Int} (h:Ho a0 a1=some r):gO a0 a1 r:=Cx (by kernel_rfl) (gN.ok (a0,a1,()) r h)
def pe:Option (Bool):=
 some true
def a7 (a0:A3 (Int)) (i_t3_3:Int):Option ((Int)⊕(Unit⊕Bool)):=
 (if(decide (i_t3_3<3))=true then
  (idx a0.l i_t3_3).bind fun e7=>
  (idx a0.l i_t3_3).bind fun e8=>
  (gd ((decide (e8<0))==false) (idx a0.l i_t3_3)).bind fun e9=>
  (gd ((decide (e8<0))==false) (idx a0.l i_t3_3)).bind fun e10=>
  (some (if(decide (e8<0))=true then true else decide (1000000<e10))).bind fun b11=>
  (if b11=true then
   some (.inr (.inr false))
  else
   some (.inl (Ac (i_t3_3+1))))
 else
  some (.inr (.inl ())))
def cW (a0:A3 (Int)):Option (Bool):=
 jn (fun(v:Unit)=>pe) (fun jJ1=>
 (iter (fun(v:Int)=>a7 a0 v) FU (0:Int)).bind (Sum.elim (fun o0=>jJ1 ()) (fun o1=>some o1)))
def rG:CE TE Tryz.prog I0:=AI [] Ab Ad 9 87 Tryz.f87 (Tryz.f87.body.getD .skip) (.s .n (.j ⟨[],[],[],[]⟩ (.s .n (.l ⟨[1],[(3, .c (.v (.k (.int .i64))))],[[1]],[]⟩ [(1,⟨[],[],[],[]⟩),(0,⟨[],[(2, .c (.v (.k (.bool))))],[],[]⟩)] .n)) .n)) [.s 32] [.k (.bool)] (fun x=>cW x.1) Tryz.func87 rfl (by kernel_rfl)
def QT (a0:AM):Option (AM):=
 some ({{{a0 with Attack:=(-1:Int)}with Blocked:=false}with Blocks:=(0:Int)})
def k8:CE TE Tryz.prog I0:=AI [] Ab Ad 9 88 Tryz.f88 (Tryz.f88.body.getD .skip) .n [.s 61] [.s 61] (fun x=>QT x.1) Tryz.func88 rfl (by kernel_rfl)
def NX (a0:AM):Option (AM):=
 some ({{{a0 with Damage:=(0:Int)}with Deadly:=false}with Shield:=(0:Int)})
def gP:CE TE Tryz.prog I0:=AI [] Ab Ad 9 89 Tryz.f89 (Tryz.f89.body.getD .skip) .n [.s 61] [.s 61] (fun x=>NX x.1) Tryz.func89 rfl (by kernel_rfl)
def YB (n_t5_1:Int):Option (Int):=
 some n_t5_1
def H4 (i_t6_6:Int) (n_t5_10:Int):Option ((Int×Int)⊕(Int)):=
 some (.inl (n_t5_10,(Ac (i_t6_6+1))))
def Jo (a0:Ao) (a1:Int) (n_t5_5:Int) (i_t6_6:Int):Option ((Int×Int)⊕(Int)):=
 (if(decide (i_t6_6<(a0.Stack.length:Int)))=true then
  jn (fun(v:Int)=>H4 i_t6_6 v) (fun jJ11=>
  (idx a0.Stack i_t6_6).bind fun e12=>
  (gd ((e12.Kind==1)==true) (idx a0.Stack i_t6_6)).bind fun e13=>
  (some (if(e12.Kind==1)=true then e13.Id==a1 else false)).bind fun b14=>
  (if b14=true then
   jJ11 (Ac (n_t5_5+1))
  else
   jJ11 n_t5_5))
 else
  some (.inr n_t5_5))
def H5 (a0:Ao) (a1:Int):Option (Int):=
 jn (fun(v:Int)=>YB v) (fun jJ2=>
 (iter (fun(v:Int×Int)=>Jo a0 a1 v.1 v.2) FU ((0:Int),(0:Int))).bind (fun o0=>jJ2 o0))
def cX:CE TE Tryz.prog I0:=AI [] Ab Ad 9 90 Tryz.f90 (Tryz.f90.body.getD .skip) (.s .n (.s .n (.j ⟨[],[(5, .c (.v (.k (.int .i64))))],[],[]⟩ (.s .n (.l ⟨[1,2],[(5, .c (.v (.k (.int .i64)))),(6, .c (.v (.k (.int .i64))))],[[2]],[]⟩ [(1,⟨[],[(5, .c (.v (.k (.int .i64))))],[],[]⟩)] (.s .n (.j ⟨[1,2,6],[(5, .c (.v (.k (.int .i64))))],[[2]],[]⟩ .n .n)))) .n))) [.s 31, .k (.int .i64)] [.k (.int .i64)] (fun x=>H5 x.1 x.2.1) Tryz.func90 rfl (by kernel_rfl)
def cY (a0:Ao) (a1:Int) (r:Int):Prop:=AP Tryz.prog I0 90 [vA A4 a0,vI a1] (· =vI r)
theorem YC {a0:Ao} {a1:Int} {r:Int} (h:H5 a0 a1=some r):cY a0 a1 r:=Cx (by kernel_rfl) (cX.ok (a0,a1,()) r h)
def Gu (a0:List (Int)):Option ((List (Int))):=
 (app 8 ([]:List (Int)) a0).bind fun l1=>
 some l1
def lc:CE TE Tryz.prog I0:=AI [] Ab Ad 9 126 Tryz.f126 (Tryz.f126.body.getD .skip) .n [.k (.lst 3)] [.k (.lst 3)] (fun x=>Gu x.1) Tryz.func126 rfl (by kernel_rfl)
def U5:Option (Bool):=
 some true
def Lx (a0:List (BH)) (a1:List (BH)) (i_t5_4:Int):Option ((Int)⊕(Unit⊕Bool)):=
 (if(decide (i_t5_4<(a0.length:Int)))=true then
  (idx a0 i_t5_4).bind fun e8=>
  (idx a1 i_t5_4).bind fun e9=>
  (if(!(e8==e9))=true then
   some (.inr (.inr false))
  else
   some (.inl (Ac (i_t5_4+1))))
 else
  some (.inr (.inl ())))
def E3 (a0:List (BH)) (a1:List (BH)):Option (Bool):=
 (if((a0.length:Int) != (a1.length:Int))=true then
  some false
 else
  jn (fun(v:Unit)=>U5) (fun jJ2=>
  (iter (fun(v:Int)=>Lx a0 a1 v) FU (0:Int)).bind (Sum.elim (fun o0=>jJ2 ()) (fun o1=>some o1))))
def MD:CE TE Tryz.prog I0:=AI [] Ab Ad 9 127 Tryz.f127 (Tryz.f127.body.getD .skip) (.s .n (.s .n (.j ⟨[],[],[],[]⟩ (.s .n (.l ⟨[0,1],[(5, .c (.v (.k (.int .i64))))],[],[]⟩ [(1,⟨[],[],[],[]⟩),(0,⟨[],[(4, .c (.v (.k (.bool))))],[],[]⟩)] .n)) .n))) [.k (.lst 151), .k (.lst 151)] [.k (.bool)] (fun x=>E3 x.1 x.2.1) Tryz.func127 rfl (by kernel_rfl)
def pf:Option (Bool):=
 some true
def a8 (a0:List (Int)) (i_t3_3:Int):Option ((Int)⊕(Unit⊕Bool)):=
 (if(decide (i_t3_3<(a0.length:Int)))=true then
  (idx a0 (Ac (i_t3_3 - 1))).bind fun e7=>
  (idx a0 i_t3_3).bind fun e8=>
  (if(decide (e8≤e7))=true then
   some (.inr (.inr false))
  else
   some (.inl (Ac (i_t3_3+1))))
 else
  some (.inr (.inl ())))
def cZ (a0:List (Int)):Option (Bool):=
 jn (fun(v:Unit)=>pf) (fun jJ1=>
 (iter (fun(v:Int)=>a8 a0 v) FU (1:Int)).bind (Sum.elim (fun o0=>jJ1 ()) (fun o1=>some o1)))
def rH:CE TE Tryz.prog I0:=AI [] Ab Ad 9 56 Tryz.f56 (Tryz.f56.body.getD .skip) (.s .n (.j ⟨[],[],[],[]⟩ (.s .n (.l ⟨[0],[(3, .c (.v (.k (.int .i64))))],[],[]⟩ [(1,⟨[],[],[],[]⟩),(0,⟨[],[(2, .c (.v (.k (.bool))))],[],[]⟩)] .n)) .n)) [.k (.lst 3)] [.k (.bool)] (fun x=>cZ x.1) Tryz.func56 rfl (by kernel_rfl)
def H6 (a0:Int):Option ((List UInt8)):=
 (some (if(decide (a0<1))=true then true else decide (17<a0))).bind fun b1=>
 (if b1=true then
  some ([]:List UInt8)
 else
  (idx (⟨FG,JW,JX,JY,JZ,NN,Hi,NO,J0,FH,gx,Xp,aY,Pt,cI,Hj,Mw⟩:yt (List UInt8)).l (Ac (a0 - 1))).bind fun e3=>
  (idx ((⟨FG,JW,JX,JY,JZ,NN,Hi,NO,J0,FH,gx,Xp,aY,Pt,cI,Hj,Mw⟩:yt (List UInt8)).l) (Ac (a0 - 1))).bind fun e4=>
  some e4)
def QU:CE TE Tryz.prog I0:=AI [] Ab Ad 9 13 Tryz.f13 (Tryz.f13.body.getD .skip) .n [.k (.int .i64)] [.k (.str)] (fun x=>H6 x.1) Tryz.func13 rfl (by kernel_rfl)
def c9 (a0:Int) (r:(List UInt8)):Prop:=AP Tryz.prog I0 13 [vI a0] (· =vS r)
theorem Ox {a0:Int} {r:(List UInt8)} (h:H6 a0=some r):c9 a0 r:=Cx (by kernel_rfl) (QU.ok (a0,()) r h)
def gQ (a0:Int):Option ((List UInt8)):=
 (nr a0).bind fun r1=>
 some r1
def lg:CE TE Tryz.prog I0:=AI [ur] Ab Ad 9 26 Tryz.f26 (Tryz.f26.body.getD .skip) .n [.k (.int .i64)] [.k (.str)] (fun x=>gQ x.1) Tryz.func26 rfl (by kernel_rfl)
def YD (vt8_1:Int):Option (Int):=
 some vt8_1
def YE (jJ2:(Int)→Option (Int)):Option (Int):=
 jJ2 (-1:Int)
def YF (a0:Ao) (a1:Int) (vt8_5:Int):Option ((Int)⊕(Unit⊕Int)):=
 (if(decide (vt8_5<(a0.Objects.length:Int)))=true then
  (idx a0.Objects vt8_5).bind fun e9=>
  (if(e9.Id==a1)=true then
   some (.inr (.inr vt8_5))
  else
   some (.inl (Ac (vt8_5+1))))
 else
  some (.inr (.inl ())))
def Xy (a0:Ao) (a1:Int):Option (Int):=
 jn (fun(v:Int)=>YD v) (fun jJ2=>
 jn (fun(v:Unit)=>YE jJ2) (fun jJ3=>
 (iter (fun(v:Int)=>YF a0 a1 v) FU (0:Int)).bind (Sum.elim (fun o0=>jJ3 ()) (fun o1=>jJ2 o1))))
def da:CE TE Tryz.prog I0:=AI [] Ab Ad 9 62 Tryz.f62 (Tryz.f62.body.getD .skip) (.s .n (.s (.r [] [] (.j 3 ⟨[],[(8, .c (.v (.k (.int .i64))))],[],[]⟩ (.s .n (.j ⟨[],[],[[2],[3]],[]⟩ (.s .n (.l ⟨[0,1,7],[(8, .c (.v (.k (.int .i64))))],[[2],[3]],[]⟩ [(1,⟨[],[],[[2],[3]],[]⟩),(0,⟨[],[(4, .c (.v (.k (.int .i64))))],[[2],[3]],[]⟩)] (.s .n (.s .n (.s (.s .n (.s (.r [] [] (.c 5 .n .n)) .n)) .n))))) .n)) .n)) .n)) [.s 31, .k (.int .i64)] [.k (.int .i64)] (fun x=>Xy x.1 x.2.1) Tryz.func62 rfl (by kernel_rfl)
def E4 (a0:Be):Option (Bool):=
 (some (if(decide (1≤a0.Amount))=true then decide (a0.Amount≤1000000)else false)).bind fun b1=>
 some b1
def E5:CE TE Tryz.prog I0:=AI [] Ab Ad 9 32 Tryz.f32 (Tryz.f32.body.getD .skip) .n [.s 34] [.k (.bool)] (fun x=>E4 x.1) Tryz.func32 rfl (by kernel_rfl)
def Da (a0:Ao) (a1:Int):Option (Bool):=
 (some (if(decide (0≤a1))=true then decide (a1<(a0.Players.length:Int))else false)).bind fun b1=>
 (gd (b1==true) (idx a0.Players a1)).bind fun e2=>
 (some (if b1=true then !e2.Lost else false)).bind fun b3=>
 some b3
def H7:CE TE Tryz.prog I0:=AI [] Ab Ad 9 31 Tryz.f31 (Tryz.f31.body.getD .skip) .n [.s 31, .k (.int .i64)] [.k (.bool)] (fun x=>Da x.1 x.2.1) Tryz.func31 rfl (by kernel_rfl)
end Go.PL
