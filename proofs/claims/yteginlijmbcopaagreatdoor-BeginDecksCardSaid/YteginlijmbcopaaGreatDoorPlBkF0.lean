/- Functions of the program, as partial functions in Lean, with proofs. -/
import Derived.Test.YteginlijmbcopaaGreatDoorPlBkB
open List (length_eq_zero_iff)
namespace Go.PL
open Go Go.RowKit Go.Proofs
set_option maxRecDepth 100000
set_option linter.all false
set_option maxHeartbeats 4000000
attribute [local irreducible] Ad Cx Cr
def gx (a0:Az) (aqp:Int):Option (Bool):=
 (some (if decide (aqp<=400) then decide ((a0.h_.length:Int)<=8)else false)).bind fun b3=>
 some b3
def R6 (a0:Az) (amK:Int) (aj_:Int):Option ((Int×Int)⊕(Int)):=
 (if(decide (aj_<(a0.h_.length:Int))) then
  (idx a0.h_ aj_).bind fun e11=>
  some (.inl ((Ac (amK+(e11.length:Int))),(Ac (aj_+1))))
 else
  some (.inr amK))
def Pp (a0:Az):Option (Bool):=
 jn (fun(v:Int)=>gx a0 v) (fun jJ2=>
 (iter (fun(v:Int×Int)=>R6 a0 v.1 v.2) FU ((a0.C_.length:Int),(0:Int))).bind (fun o0=>jJ2 o0))
def kU:Cj:=mC [] 6 Tryz.f6 (.s .n (.s .n (.j ⟨[1],[BS 3],[[1]],[]⟩ (.s .n (.l ⟨[1,10,11],[BS 3,BS 12],[[1]],[]⟩ [(1,⟨[1],[BS 3],[[1]],[]⟩)] .n)) .n))) [.s 26] [.k (.bool)] (fun x=>Pp x.1) Tryz.func6 (by kernel_rfl)
def YX (a1:Int) (ahD:Int) (aeE:List (List (Int))):Option (Az):=
 (n_ (ahD=((aeE.length:Nat):Int))).bind fun _=>
 some (⟨([(⟨oh,false,(⟨0,0,(⟨0,0,0,0,0⟩:A5 (Int))⟩:AG),0,(⟨0,32,([]:List (List UInt8))⟩:Nz),0,0,0,([]:List (AL))⟩:Bx)]:List (Bx)),aeE,a1,1⟩:Az)
def VP (a0:Int) (amW:Int) (aaO:Int) (aax:List (List (Int))):Option ((Int×Int×(List (List (Int))))⊕((Int×(List (List (Int)))))):=
 (if decide (amW<a0) then
  (idx aax (0:Int)).bind fun e15=>
  (idx aax (0:Int)).bind fun e16=>
  (n_ (0<aaO)).bind fun u17=>
  (app 8 e16 ([(0:Int)]:List (Int))).bind fun l18=>
  (idx aax (0:Int)).bind fun e19=>
  (idx aax (0:Int)).bind fun e20=>
  (n_ (0<aaO)).bind fun u21=>
  (n_ ((0:Int)=(0:Int))).bind fun u22=>
  (some (aax.set ((0:Int)).toNat l18)).bind fun l23=>
  (idx l23 (1:Int)).bind fun e24=>
  (idx l23 (1:Int)).bind fun e25=>
  (n_ (1<aaO)).bind fun u26=>
  (app 8 e25 ([(0:Int)]:List (Int))).bind fun l27=>
  (idx l23 (1:Int)).bind fun e28=>
  (idx l23 (1:Int)).bind fun e29=>
  (n_ (1<aaO)).bind fun u30=>
  (n_ ((1:Int)=(1:Int))).bind fun u31=>
  (some (l23.set ((1:Int)).toNat l27)).bind fun l32=>
  some (.inl ((Ac (amW+1)),aaO,l32))
 else
  some (.inr (aaO,aax)))
def OF (a0:Int) (a1:Int):Option (Az):=
 jn (fun(v:Int×(List (List (Int))))=>YX a1 v.1 v.2) (fun jJ3=>
 (iter (fun(v:Int×Int×(List (List (Int))))=>VP a0 v.1 v.2.1 v.2.2) FU ((0:Int),((([([]:List (Int)),([]:List (Int))]:List (List (Int))).length :Nat):Int),([([]:List (Int)),([]:List (Int))]:List (List (Int))))).bind (fun o0=>jJ3 (o0.1,o0.2)))
def ao:Cj:=mX [] 20 Tryz.f20 (.s .n (.s (.r [] [] (.q 5 .sb .n)) (.j ⟨[4,5],[],[[4],[5],[9]],[([1000003,12], .deep 31)]⟩ (.s .n (.l ⟨[0,4,5],[BS 6],[[4],[5],[9]],[([1000003,12], .deep 31)]⟩ [(1,⟨[4,5],[],[[4],[5],[9]],[([1000003,12], .deep 31)]⟩)] (.s .n (.s (.s (.r [] [] (.t (.q 5 .au (.q 9 .au .n)))) (.r [] [] (.t (.q 5 .au (.q 9 .au .n))))) .n)))) .n))) [[1,2,0,0]] [.k (.int .i64), .k (.int .u64)] [.s 26] (fun x=>OF x.1 x.2.1) Tryz.func20 (by kernel_rfl)
def Vy:Option (Bool):=
 some true
def IF (a0:List UInt8) (aiA:Int):Option ((Int)⊕(Unit⊕Bool)):=
 (if(decide (aiA<((Eg a0).length :Int))) then
  (idx (Eg a0) aiA).bind fun e17=>
  (some (if decide (e17<97) then true else decide (122<e17))).bind fun b18=>
  (some (if decide (e17<48) then true else decide (57<e17))).bind fun b19=>
  (some (if b18 then b19 else false)).bind fun b20=>
  (some (if b20 then e17 != 45 else false)).bind fun b21=>
  (if b21 then
   some (.inr (.inr false))
  else
   some (.inl (Ac (aiA+1))))
 else
  some (.inr (.inl ())))
def Pq (a0:List UInt8):Option (Bool):=
 (some (if((a0.length:Int)==0) then true else decide (32<(a0.length:Int)))).bind fun b1=>
 (gd (b1==false) (SZ a0 (0:Int))).bind fun c2=>
 (some (if b1 then true else decide (c2<97))).bind fun b3=>
 (gd (b3==false) (SZ a0 (0:Int))).bind fun c4=>
 (some (if b3 then true else decide (122<c4))).bind fun b5=>
 (gd (b5==false) (SZ a0 (Ac ((a0.length:Int) - (1:Int))))).bind fun c6=>
 (some (if b5 then true else c6==45)).bind fun b7=>
 (gd (b7==false) (JM a0 dF)).bind fun r8=>
 (if(if b7=true then true else r8) then
  some false
 else
  jn (fun(v:Unit)=>Vy) (fun ahc=>
  (n_ (a0.length<=140737488355328)).bind fun u11=>
  (iter (fun(v:Int)=>IF a0 v) FU (0:Int)).bind (Sum.elim (fun o0=>ahc ()) (fun o1=>some o1))))
def T5:Cj:=mC [kT] 145 Tryz.f145 (.s .n (.s .n (.j M5 (.s (.r [] [] (.q 1 .by_ .n)) (.l ⟨[36,37],[BS 38],[],[]⟩ [(1,M5),(0,⟨[],[JL 2],[],[]⟩)] .n)) .n))) [.k (.str)] [.k (.bool)] (fun x=>Pq x.1) Tryz.func145 (by kernel_rfl)
def YY (a0:AG):Option (Bool):=
 (some (if decide (0<=a0.Generic) then decide (a0.Generic<=99)else false)).bind fun b2=>
 (some (if b2 then decide (0<=a0.X)else false)).bind fun b3=>
 (some (if b3 then decide (a0.X<=2)else false)).bind fun b4=>
 some b4
def EK (a0:AG) (amr:Int):Option ((Int)⊕(Unit⊕Bool)):=
 (if decide (amr<5) then
  (idx a0.Color.l amr).bind fun e10=>
  (some (if decide (e10<0) then true else decide (9<e10))).bind fun b11=>
  (if b11 then
   some (.inr (.inr false))
  else
   some (.inl (Ac (amr+1))))
 else
  some (.inr (.inl ())))
def Pr (a0:AG):Option (Bool):=
 jn (fun(v:Unit)=>YY a0) (fun jJ1=>
 (iter (fun(v:Int)=>EK a0 v) FU (0:Int)).bind (Sum.elim (fun o0=>jJ1 ()) (fun o1=>some o1)))
def T6:Cj:=mC [] 146 Tryz.f146 (.s .n (.j ⟨[1],[],[[1]],[]⟩ (.s .n (.l ⟨[1,6],[BS 7],[[1]],[]⟩ [(1,⟨[1],[],[[1]],[]⟩),(0,⟨[],[JL 2],[],[]⟩)] .n)) .n)) [.s 99] [.k (.bool)] (fun x=>Pr x.1) Tryz.func146 (by kernel_rfl)
def Ic (a0:Int):Option (Bool):=
 (some (if((JS .i64 a0 (6:Int))==(0:Int)) then true else a0==2)).bind fun b1=>
 (some (if b1 then true else a0==4)).bind fun b2=>
 some b2
def VQ:Cj:=mC [] 201 Tryz.f201 .n [.k (.int .i64)] [.k (.bool)] (fun x=>Ic x.1) Tryz.func201 (by kernel_rfl)
def KC:Option (Int):=
 some (0:Int)
def Cf (a0:List UInt8) (a1:Int) (abO:Int):Option ((Int)⊕(Unit⊕Int)):=
 (if decide (abO<a1) then
  (idx (⟨T3,QJ⟩:A2 (List UInt8)).l abO).bind fun e7=>
  (if e7 != a0 then
   some (.inl (Ac (abO+1)))
  else
   (n_ (0<=abO)).bind fun u9=>
   some (.inr (.inr (Ac ((1:Int)*2 ^ (min (abO).toNat (IntKind.i64).bits))))))
 else
  some (.inr (.inl ())))
def CG (a0:List UInt8) (a1:Int):Option (Int):=
 jn (fun(v:Unit)=>KC) (fun jJ1=>
 (iter (fun(v:Int)=>Cf a0 a1 v) FU (0:Int)).bind (Sum.elim (fun o0=>jJ1 ()) (fun o1=>some o1)))
def KP:Cj:=mC [] 247 Tryz.f247 (.s .n (.s .n (.j M5 (.s .n (.l ⟨[0,2,8],[BS 9],[],[]⟩ [(1,M5),(0,⟨[],[BS 6],[],[]⟩)] (.s .n (.s .n (.s (.s .n (.s (.s (.r [] [] (.c 2 .n .n)) .n) .n)) .n))))) .n))) [.k (.str), .k (.int .i64), .f 248] [.k (.int .i64)] (fun x=>CG x.1 x.2.1) Tryz.func247 (by kernel_rfl)
def KQ:Option (Int):=
 some (0:Int)
def Ck (a0:List UInt8) (a1:Int) (abO:Int):Option ((Int)⊕(Unit⊕Int)):=
 (if decide (abO<a1) then
  (idx (⟨Jp,Lf,M9,Pm,Pn,RY⟩:A6 (List UInt8)).l abO).bind fun e7=>
  (if e7 != a0 then
   some (.inl (Ac (abO+1)))
  else
   (n_ (0<=abO)).bind fun u9=>
   some (.inr (.inr (Ac ((1:Int)*2 ^ (min (abO).toNat (IntKind.i64).bits))))))
 else
  some (.inr (.inl ())))
def CR (a0:List UInt8) (a1:Int):Option (Int):=
 jn (fun(v:Unit)=>KQ) (fun jJ1=>
 (iter (fun(v:Int)=>Ck a0 a1 v) FU (0:Int)).bind (Sum.elim (fun o0=>jJ1 ()) (fun o1=>some o1)))
def LK:Cj:=mC [] 247 Tryz.f247 (.s .n (.s .n (.j M5 (.s .n (.l ⟨[0,2,8],[BS 9],[],[]⟩ [(1,M5),(0,⟨[],[BS 6],[],[]⟩)] (.s .n (.s .n (.s (.s .n (.s (.s (.r [] [] (.c 2 .n .n)) .n) .n)) .n))))) .n))) [.k (.str), .k (.int .i64), .f 249] [.k (.int .i64)] (fun x=>CR x.1 x.2.1) Tryz.func247 (by kernel_rfl)
def F8 (a0:Int):Option (Bool):=
 (some (if decide (0<=a0) then decide (a0<=131071)else false)).bind fun b1=>
 some b1
def R7:Cj:=mC [] 148 Tryz.f148 .n [.k (.int .i64)] [.k (.bool)] (fun x=>F8 x.1) Tryz.func148 (by kernel_rfl)
def IG (a0:Int):Option (Bool):=
 (some (if decide (0<=a0) then decide (a0<=31)else false)).bind fun b1=>
 some b1
def YZ:Cj:=mC [] 149 Tryz.f149 .n [.k (.int .i64)] [.k (.bool)] (fun x=>IG x.1) Tryz.func149 (by kernel_rfl)
def oE (a0:Int) (r:Bool):Prop:=BV Tryz.prog I0 149 [vI a0] (· =vB r)
theorem kV {a0:Int} {r:Bool} (h:IG a0=some r):oE a0 r:=IC (by kernel_rfl) (YZ.ok (a0,()) r h)
def Ff (a0:AL) (a1:AL):Option (Bool):=
 (some (if a0.Filter==a1.Filter then(a0.abn.length:Int)==(a1.abn.length:Int)else false)).bind fun b1=>
 (some (if b1 then a0.ac4==a1.ac4 else false)).bind fun b2=>
 (some (if b2 then a0.ah9==a1.ah9 else false)).bind fun b3=>
 (some (if b3 then a0.abb==a1.abb else false)).bind fun b4=>
 (some (if b4 then a0.May==a1.May else false)).bind fun b5=>
 (some (if b5 then(a0.abd.length:Int)==(a1.abd.length:Int)else false)).bind fun b6=>
 (some (if b6 then(a0.G_.length:Int)==(a1.G_.length:Int)else false)).bind fun b7=>
 (some (if b7 then a0.Replace==a1.Replace else false)).bind fun b8=>
 some b8
def Y0:Cj:=mC [] 203 Tryz.f203 .n [.s 121, .s 121] [.k (.bool)] (fun x=>Ff x.1 x.2.1) Tryz.func203 (by kernel_rfl)
def A9 (a0:Int) (a1:Int):Option (Bool):=
 (some (if decide (0<=a0) then decide (a0<=a1)else false)).bind fun b1=>
 some b1
def Mq:Cj:=mC [] 250 Tryz.f250 .n [.k (.int .i64), .k (.int .i64)] [.k (.bool)] (fun x=>A9 x.1 x.2.1) Tryz.func250 (by kernel_rfl)
def I1 (a0:Int) (a1:Int) (a2:Int):Option (Bool):=
 (some (if decide (a1<=a0) then decide (a0<=a2)else false)).bind fun b1=>
 some b1
def wq:Cj:=mC [] 276 Tryz.f276 .n [.k (.int .i64), .k (.int .i64), .k (.int .i64)] [.k (.bool)] (fun x=>I1 x.1 x.2.1 x.2.2.1) Tryz.func276 (by kernel_rfl)
def Lh (ajX:B4):Option (B4):=
 some ajX
def Jq (a0:B4) (jJ2:(B4)->Option (B4)) (an6:Bool):Option (B4):=
 (if an6 then
  jJ2 (⟨a0.Kind,a0.N,a0.M,[],(⟨0,0,0,0,0,0,0,[],0,0,(⟨0,0⟩:Aj),(⟨0,0⟩:Aj),(⟨0,0⟩:Aj)⟩:Aq)⟩:B4)
 else
  jJ2 (⟨a0.Kind,0,0,[],(⟨0,0,0,0,0,0,0,[],0,0,(⟨0,0⟩:Aj),(⟨0,0⟩:Aj),(⟨0,0⟩:Aj)⟩:Aq)⟩:B4))
def Li (a0:B4) (jJ2:(B4)->Option (B4)) (aqa:Bool):Option (B4):=
 (if aqa then
  jJ2 (⟨a0.Kind,0,0,a0.Sub,(⟨0,0,0,0,0,0,0,[],0,0,(⟨0,0⟩:Aj),(⟨0,0⟩:Aj),(⟨0,0⟩:Aj)⟩:Aq)⟩:B4)
 else if a0.Kind==11 then
  jJ2 (⟨a0.Kind,0,0,[],a0.Filter⟩:B4)
 else
  jn (fun(v:Bool)=>Jq a0 jJ2 v) (fun aa9=>
  (if a0.Kind==12 then
   aa9 (a0.Kind==12)
  else
   aa9 (a0.Kind==13))))
def Lj (a0:B4) (jJ2:(B4)->Option (B4)) (abO:Bool):Option (B4):=
 (if abO then
  jJ2 (⟨a0.Kind,a0.N,0,[],(⟨0,0,0,0,0,0,0,[],0,0,(⟨0,0⟩:Aj),(⟨0,0⟩:Aj),(⟨0,0⟩:Aj)⟩:Aq)⟩:B4)
 else
  jn (fun(v:Bool)=>Li a0 jJ2 v) (fun jJ7=>
  (if a0.Kind==4 then
   jJ7 (a0.Kind==4)
  else
   jJ7 (a0.Kind==5))))
def OG (a0:B4):Option (B4):=
 jn (fun(v:B4)=>Lh v) (fun jJ2=>
 jn (fun(v:Bool)=>Lj a0 jJ2 v) (fun jJ4=>
 (if a0.Kind==2 then
  jJ4 (a0.Kind==2)
 else if a0.Kind==3 then
  jJ4 (a0.Kind==3)
 else if a0.Kind==6 then
  jJ4 (a0.Kind==6)
 else if a0.Kind==7 then
  jJ4 (a0.Kind==7)
 else if a0.Kind==8 then
  jJ4 (a0.Kind==8)
 else
  jJ4 (a0.Kind==9))))
def oF:Cj:=mC [] 277 Tryz.f277 (.s .n (.s .n (.j ⟨[2,3],[],[[2]],[([3], .box [.v (.s 148)])]⟩ (.s .n (.j ⟨[1,2,3,8],[JL 9],[[1],[2],[3]],[]⟩ .n (.i .n (.j ⟨[1,2,3,8],[JL 19],[[1],[2],[3]],[]⟩ .n (.i .n (.s .n (.i .n (.j ⟨[1,2,3],[JL 30],[[1],[2],[3]],[]⟩ .n (.i (.r [] [] (.t .n)) .n))))))))) .n))) [.s 148] [.s 148] (fun x=>OG x.1) Tryz.func277 (by kernel_rfl)
def kW (awM:List (Int)):Option ((List (Int))):=
 some awM
def gy (agO:Int) (ag2:List (Int)):Option ((Int×(List (Int)))⊕((List (Int)))):=
 some (.inl ((Ac (agO+1)),ag2))
def R8 (a0:Int) (agO:Int) (alI:List (Int)):Option ((Int×(List (Int)))⊕((List (Int)))):=
 (if decide (agO<31) then
  jn (fun(v:(List (Int)))=>gy agO v) (fun aex=>
  (n_ (0<=agO)).bind fun u14=>
  (if((JS .i64 (Int.fdiv a0 (2 ^ (min (agO).toNat (IntKind.i64).bits))) (1:Int))==(1:Int)) then
   (app 8 alI ([agO]:List (Int))).bind fun l16=>
   aex l16
  else
   aex alI))
 else
  some (.inr alI))
def FK (a0:Int):Option ((List (Int))):=
 (if decide (a0<0) then
  some ([]:List (Int))
 else
  jn (fun(v:(List (Int)))=>kW v) (fun jJ3=>
  (iter (fun(v:Int×(List (Int)))=>R8 a0 v.1 v.2) FU ((0:Int),([]:List (Int)))).bind (fun o0=>jJ3 o0)))
def QL:Cj:=mC [] 300 Tryz.f300 (.s .n (.s .n (.s .n (.j ⟨[],[(3, .c (.c (.j_ [3])))],[],[([3], .row 3)]⟩ (.s .n (.l ⟨[0],[(3, .c (.c (.j_ [3]))),BS 8],[],[([3], .row 3)]⟩ [(1,⟨[],[(3, .c (.c (.j_ [3])))],[],[([3], .row 3)]⟩)] (.s .n (.s .n (.j ⟨[0,8],[(3, .c (.c (.j_ [3])))],[],[([3], .row 3)]⟩ .n .n))))) .n)))) [.k (.int .i64)] [.k (.t_ 3)] (fun x=>FK x.1) Tryz.func300 (by kernel_rfl)
def T7:Option ((List UInt8)):=
 some ([]:List UInt8)
def T8 (a0:List (List UInt8)) (aga:Int):Option ((Int)⊕(Unit⊕(List UInt8))):=
 (if(decide (aga<(a0.length:Int))) then
  (idx a0 aga).bind fun e7=>
  (if(e7 != ([]:List UInt8)) then
   some (.inr (.inr e7))
  else
   some (.inl (Ac (aga+1))))
 else
  some (.inr (.inl ())))
def BY (a0:List (List UInt8)):Option ((List UInt8)):=
 jn (fun(v:Unit)=>T7) (fun jJ1=>
 (iter (fun(v:Int)=>T8 a0 v) FU (0:Int)).bind (Sum.elim (fun o0=>jJ1 ()) (fun o1=>some o1)))
def NB:Cj:=mC [] 304 Tryz.f304 (.s .n (.s .n (.j ⟨[3],[],[],[]⟩ (.s .n (.l ⟨[3,6,7],[BS 8],[],[]⟩ [(1,⟨[3],[],[],[]⟩),(0,⟨[],[sq 2],[],[]⟩)] .n)) .n))) [.k (.t_ 9)] [.k (.str)] (fun x=>BY x.1) Tryz.func304 (by kernel_rfl)
def GG (a0:List (List UInt8)) (a1:List UInt8):Option ((List UInt8)):=
 (PR a0 a1).bind fun r1=>
 some r1
def OH:Cj:=mC [gw] 254 Tryz.f254 .n [.k (.t_ 9), .k (.str)] [.k (.str)] (fun x=>GG x.1 x.2.1) Tryz.func254 (by kernel_rfl)
def I2 (a0:Int):Option ((List UInt8)):=
 (if a0==1 then
  some kH
 else if a0==2 then
  some YP
 else if a0==3 then
  some T4
 else if a0==4 then
  some fT
 else if a0==5 then
  some fU
 else
  some ([]:List UInt8))
def R9:Cj:=mC [] 283 Tryz.f283 .n [.k (.int .i64)] [.k (.str)] (fun x=>I2 x.1) Tryz.func283 (by kernel_rfl)
def Dg (a0:Int):Option ((List UInt8)):=
 (dC a0).bind fun r1=>
 some r1
def Na:Cj:=mC [zL] 263 Tryz.f263 .n [.k (.int .i64)] [.k (.str)] (fun x=>Dg x.1) Tryz.func263 (by kernel_rfl)
def Mr (a1:Int) (an3:Bool):Option (Bool):=
 (if an3 then
  (some (if a1==8 then true else a1==4)).bind fun b13=>
  (some (if b13 then true else a1==3)).bind fun b14=>
  some b14
 else
  some false)
def Jr (a0:Int) (a1:Int):Option (Bool):=
 (if a0==1 then
  (some (if a1==1 then true else a1==2)).bind fun b2=>
  (some (if b2 then true else a1==3)).bind fun b3=>
  (some (if b3 then true else a1==4)).bind fun b4=>
  some b4
 else if a0==2 then
  (some (if a1==5 then true else a1==6)).bind fun b6=>
  (some (if b6 then true else a1==7)).bind fun b7=>
  some b7
 else if a0==3 then
  (some (if a1==8 then true else a1==4)).bind fun b9=>
  some b9
 else
  jn (fun(v:Bool)=>Mr a1 v) (fun aa9=>
  (if a0==4 then
   aa9 (a0==4)
  else if a0==5 then
   aa9 (a0==5)
  else if a0==10 then
   aa9 (a0==10)
  else
   aa9 (a0==8))))
def Y1:Cj:=mC [] 255 Tryz.f255 (.s .n (.s (.s .n (.s .n (.i .n (.s .n (.i .n (.s .n (.i .n (.j ⟨[1],[JL 42],[],[]⟩ .n .n)))))))) .n)) [.k (.int .i64), .k (.int .i64)] [.k (.bool)] (fun x=>Jr x.1 x.2.1) Tryz.func255 (by kernel_rfl)
def Lk (amf:Ay):Option (Ay):=
 some amf
def Ll (a0:Ay) (ajU:Ay) (jJ8:(Ay)->Option (Ay)):Option (Ay):=
 jJ8 ({ajU with Filter:=a0.Filter})
def KD (jJ8:(Ay)->Option (Ay)) (auq:Ay):Option (Ay):=
 jJ8 auq
def Lm (a0:Ay) (ajU:Ay):Option (Ay):=
 jn (fun(v:Ay)=>Lk v) (fun jJ8=>
 jn (fun(v:Unit)=>Ll a0 ajU jJ8) (fun jJ9=>
 (if a0.On==1 then
  jn (fun(v:Ay)=>KD jJ8 v) (fun ahb=>
  (if a0.Who==0 then
   ahb ({{ajU with Who:=a0.Who}with Filter:=a0.Filter})
  else
   ahb ({ajU with Who:=a0.Who})))
 else if a0.On==2 then
  jJ9 ()
 else if a0.On==8 then
  jJ9 ()
 else
  jJ8 ({ajU with Who:=a0.Who}))))
def Ln (a0:Ay) (aoZ:Ay):Option (Ay):=
 jn (fun(v:Ay)=>Lm a0 v) (fun jJ6=>
 (if a0.Do==5 then
  jJ6 ({aoZ with B_:=a0.B_})
 else
  jJ6 aoZ))
def Lo (a0:Ay) (ajX:Ay):Option (Ay):=
 jn (fun(v:Ay)=>Ln a0 v) (fun jJ4=>
 (if a0.Do==7 then
  jJ4 ({ajX with Tl:=a0.Tl})
 else
  jJ4 ajX))
def GX (a0:Ay):Option (Ay):=
 jn (fun(v:Ay)=>Lo a0 v) (fun jJ2=>
 (some (if a0.Do==2 then true else a0.Do==4)).bind fun b18=>
 (some (if b18 then true else a0.Do==7)).bind fun b19=>
 (if b19 then
  jJ2 (⟨a0.On,0,(⟨0,0,0,0,0,0,0,[],0,0,(⟨0,0⟩:Aj),(⟨0,0⟩:Aj),(⟨0,0⟩:Aj)⟩:Aq),a0.Do,a0.N,0,0⟩:Ay)
 else
  jJ2 (⟨a0.On,0,(⟨0,0,0,0,0,0,0,[],0,0,(⟨0,0⟩:Aj),(⟨0,0⟩:Aj),(⟨0,0⟩:Aj)⟩:Aq),a0.Do,0,0,0⟩:Ay)))
def T9:Cj:=mC [] 256 Tryz.f256 (.s .n (.s .n (.j ⟨[1,2,3],[],[[1],[2]],[([3], .box [.v (.s 119)])]⟩ .n (.j ⟨[1,2,3],[],[[1],[2]],[([3], .box [.v (.s 119)])]⟩ .n (.j ⟨[1,2,3],[],[[1],[2]],[([3], .box [.v (.s 119)])]⟩ .n (.j ⟨[2,3],[],[[2]],[([3], .box [.v (.s 119)])]⟩ (.s .n (.s (.j ⟨[1,2,3],[],[[1],[2],[3]],[]⟩ (.s .n (.j ⟨[2,3],[],[[2]],[([3], .box [.v (.s 119)])]⟩ .n .n)) .n) .n)) .n)))))) [.s 119] [.s 119] (fun x=>GX x.1) Tryz.func256 (by kernel_rfl)
def Fg (a0:Int):Option ((List UInt8)):=
 (some (if decide (a0<0) then true else decide (3<=a0))).bind fun b1=>
 (if b1 then
  some ([]:List UInt8)
 else
  (n_ (0<=a0/\a0<((3:Nat):Int))).bind fun u3=>
  (n_ (a0.toNat<HJ.length)).bind fun u4=>
  some (HJ.getD a0.toNat []))
def KE:Cj:=mC [Adq] 257 Tryz.f257 (.s .n (.s .n (.s (.r [] [] (.q 1 .ga (.q 2 .gl .n))) .n))) [.k (.int .i64)] [.k (.str)] (fun x=>Fg x.1) Tryz.func257 (by kernel_rfl)
def IH (a0:Int):Option ((List UInt8)):=
 (some (if decide (a0<0) then true else decide (27<=a0))).bind fun b1=>
 (if b1 then
  some ([]:List UInt8)
 else
  (idx (⟨([]:List UInt8),YR,Vv,kJ,kK,Vw,kL,kM,fX,dN,qq,kN,YS,qr,kO,Vx,kP,YT,LJ,kQ,kR,YU,YV,kS,qt,YW,dO⟩:A27 (List UInt8)).l a0).bind fun e3=>
  (idx ((⟨([]:List UInt8),YR,Vv,kJ,kK,Vw,kL,kM,fX,dN,qq,kN,YS,qr,kO,Vx,kP,YT,LJ,kQ,kR,YU,YV,kS,qt,YW,dO⟩:A27 (List UInt8)).l) a0).bind fun e4=>
  some e4)
def aq:Cj:=mC [] 259 Tryz.f259 .n [.k (.int .i64)] [.k (.str)] (fun x=>IH x.1) Tryz.func259 (by kernel_rfl)
def Sa (ajX:AN):Option (AN):=
 some ajX
def Sb (jJ2:(AN)->Option (AN)) (aoZ:AN):Option (AN):=
 jJ2 ({aoZ with ref:=true})
def Sc (jJ4:(AN)->Option (AN)) (ajU:AN):Option (AN):=
 jJ4 ({ajU with af7:=true})
def PU (a0:Int) (jJ2:(AN)->Option (AN)) (jJ4:(AN)->Option (AN)) (an9:Bool):Option (AN):=
 (if an9 then
  jJ4 (⟨false,false,false,false,false,false,false,false⟩:AN)
 else if a0==3 then
  jJ2 (⟨true,false,false,true,false,false,false,false⟩:AN)
 else if a0==12 then
  jJ2 (⟨true,true,false,false,true,false,false,false⟩:AN)
 else if a0==13 then
  jJ2 (⟨true,false,false,false,false,false,false,true⟩:AN)
 else if a0==14 then
  jJ2 (⟨false,false,false,false,false,false,true,false⟩:AN)
 else if a0==18 then
  jJ2 (⟨true,true,false,false,false,true,false,false⟩:AN)
 else if a0==20 then
  jJ2 (⟨false,true,false,false,false,false,false,false⟩:AN)
 else if a0==21 then
  jJ2 (⟨false,false,false,false,false,true,false,false⟩:AN)
 else
  jJ2 (⟨false,false,false,false,false,false,false,false⟩:AN))
def PV (a0:Int) (jJ2:(AN)->Option (AN)) (jJ4:(AN)->Option (AN)) (jJ6:(AN)->Option (AN)) (ap7:Bool):Option (AN):=
 (if ap7 then
  jJ6 (⟨false,false,false,false,false,false,false,false⟩:AN)
 else
  jn (fun(v:Bool)=>PU a0 jJ2 jJ4 v) (fun afu=>
  (if a0==2 then
   afu (a0==2)
  else if a0==8 then
   afu (a0==8)
  else if a0==9 then
   afu (a0==9)
  else if a0==15 then
   afu (a0==15)
  else if a0==16 then
   afu (a0==16)
  else if a0==17 then
   afu (a0==17)
  else
   afu (a0==25))))
def Sd (a0:Int) (jJ2:(AN)->Option (AN)) (jJ4:(AN)->Option (AN)) (jJ6:(AN)->Option (AN)) (acX:Bool):Option (AN):=
 (if acX then
  jJ6 (⟨false,false,true,false,false,false,false,false⟩:AN)
 else
  jn (fun(v:Bool)=>PV a0 jJ2 jJ4 jJ6 v) (fun aa9=>
  (if a0==1 then
   aa9 (a0==1)
  else if a0==4 then
   aa9 (a0==4)
  else if a0==5 then
   aa9 (a0==5)
  else if a0==6 then
   aa9 (a0==6)
  else if a0==7 then
   aa9 (a0==7)
  else if a0==19 then
   aa9 (a0==19)
  else if a0==22 then
   aa9 (a0==22)
  else
   aa9 (a0==26))))
def Ps (a0:Int):Option (AN):=
 jn (fun(v:AN)=>Sa v) (fun jJ2=>
 jn (fun(v:AN)=>Sb jJ2 v) (fun jJ4=>
 jn (fun(v:AN)=>Sc jJ4 v) (fun jJ6=>
 jn (fun(v:Bool)=>Sd a0 jJ2 jJ4 jJ6 v) (fun jJ8=>
 (if a0==10 then
  jJ8 (a0==10)
 else
  jJ8 (a0==11))))))
def kX:Cj:=mC [] 261 Tryz.f261 (.s .n (.s .n (.j ⟨[2,3],[],[[2]],[([3], .box [.v (.s 253)])]⟩ (.s .n (.s (.s (.s (.s (.s (.s (.s (.j ⟨[2,3],[],[[2]],[([3], .box [.v (.s 253)])]⟩ (.j ⟨[2,3],[],[[2]],[([3], .box [.v (.s 253)])]⟩ (.s (.s (.s (.j ⟨[2,3,4],[JL 5],[[2],[3]],[]⟩ .n .n) (.s (.j ⟨[2,3,4],[JL 8],[[2],[3]],[]⟩ .n .n) (.s (.j ⟨[2,3,4],[JL 17],[[2],[3]],[]⟩ .n .n) .n))) .n) .n) .n) .n) .n) .n) .n) .n) .n) .n) .n)) .n))) [.k (.int .i64)] [.s 253] (fun x=>Ps x.1) Tryz.func261 (by kernel_rfl)
def OI (azj:BC):Option (BC):=
 some ({azj with Kind:=(0:Int)})
def OJ (jJ2:(BC)->Option (BC)) (azi:BC):Option (BC):=
 jJ2 ({azi with N:=(0:Int)})
def OL (a0:BC):Option (BC):=
 jn (fun(v:BC)=>OI v) (fun jJ2=>
 jn (fun(v:BC)=>OJ jJ2 v) (fun jJ4=>
 (if a0.Kind==2 then
  jJ4 ({a0 with Filter:=(⟨0,0,0,0,0,0,0,[],0,0,(⟨0,0⟩:Aj),(⟨0,0⟩:Aj),(⟨0,0⟩:Aj)⟩:Aq)})
 else if a0.Kind==0 then
  jJ4 a0
 else if a0.Kind==4 then
  jJ2 ({a0 with Tl:=(0:Int)})
 else
  jJ2 a0)))
def aw:Cj:=mC [] 305 Tryz.f305 (.s .n (.j ⟨[1,2],[],[[2]],[([1], .box [.v (.s 178)])]⟩ (.s .n (.s (.j ⟨[1,2],[],[[2]],[([1], .box [.v (.s 178)])]⟩ .n .n) .n)) .n)) [.s 178] [.s 178] (fun x=>OL x.1) Tryz.func305 (by kernel_rfl)
def Ms (a0:A6 (Int)):Option (AG):=
 (idx a0.l (0:Int)).bind fun e1=>
 some (⟨e1,0,(⟨a0.x1,a0.x2,a0.x3,a0.x4,a0.x5⟩:A5 (Int))⟩:AG)
def kY (a0:A6 (Int)) (r:AG):Prop:=BV Tryz.prog I0 306 [vA (we (eI .i64)) a0] (· =vA FJ r)
theorem gz {a0:A6 (Int)} {r:AG} (h:Ms a0=some r):kY a0 r:=by refine BV.bo BT Tryz.func306 rfl Tryz.ntmps306 [.cell 2 99] fun _ _ _ _=>?_;unfold Ms at h;refine Rg [.a,.a] (sl 12 [(1,vP [1] (0)),(2,vP [2] (0))] [bx [2] [An 0,An 0,An (((⟨0,0,0,0,0⟩:A5 (Int))).x0),An (((⟨0,0,0,0,0⟩:A5 (Int))).x1),An (((⟨0,0,0,0,0⟩:A5 (Int))).x2),An (((⟨0,0,0,0,0⟩:A5 (Int))).x3),An (((⟨0,0,0,0,0⟩:A5 (Int))).x4)],bx [1] (we (eI .i64) a0)]) (aN) ?_;obtain⟨e1,i0,h⟩:=bS h;exact Gg [.a,(.v (vI e1)),.a,.a,.a] (uo [] [(3,vP [3] (0))] [.e (bx [3] [An e1,An 0,An (((⟨0,0,0,0,0⟩:A5 (Int))).x0),An (((⟨0,0,0,0,0⟩:A5 (Int))).x1),An (((⟨0,0,0,0,0⟩:A5 (Int))).x2),An (((⟨0,0,0,0,0⟩:A5 (Int))).x3),An (((⟨0,0,0,0,0⟩:A5 (Int))).x4)]),.k 0,.k 1]) (aC (L7 i0)<|aC (ald i0 (tY .i64) (we (eI .i64) a0) 0 6 0 1 false (vI e1))<|aC (Eq.refl (vI e1))<|aC (And.intro (show True/\True from⟨trivial,trivial⟩) AeW)<|aN)<|hS<|Ad.asu [0,1,4,5,7,15,3] 15 [.a,.a,.a,(.e 0 [An e1,An 0,An (((⟨a0.x1,a0.x2,a0.x3,a0.x4,a0.x5⟩:A5 (Int))).x0),An (((⟨a0.x1,a0.x2,a0.x3,a0.x4,a0.x5⟩:A5 (Int))).x1),An (((⟨a0.x1,a0.x2,a0.x3,a0.x4,a0.x5⟩:A5 (Int))).x2),An (((⟨a0.x1,a0.x2,a0.x3,a0.x4,a0.x5⟩:A5 (Int))).x3),An (((⟨a0.x1,a0.x2,a0.x3,a0.x4,a0.x5⟩:A5 (Int))).x4)])] [[3],[2],[1]] (fun n=>⟨[.undef,vP [1] (0),vP [2] (0),vP [3] (0),.undef,.undef,.undef,cond (Nat.testBit n 0) (vP [3] (2)) (.undef),cond (Nat.testBit n 1) (.c (.bsl [3] 2 5)) (.undef),cond (Nat.testBit n 2) (.c (.bsl [1] 1 5)) (.undef),cond (Nat.testBit n 3) (vI 5) (.undef),.undef],List.filterMap id [cond (Nat.testBit n 3) (some (bx [3] [An e1,An 0,An (((⟨a0.x1,a0.x2,a0.x3,a0.x4,a0.x5⟩:A5 (Int))).x0),An (((⟨a0.x1,a0.x2,a0.x3,a0.x4,a0.x5⟩:A5 (Int))).x1),An (((⟨a0.x1,a0.x2,a0.x3,a0.x4,a0.x5⟩:A5 (Int))).x2),An (((⟨a0.x1,a0.x2,a0.x3,a0.x4,a0.x5⟩:A5 (Int))).x3),An (((⟨a0.x1,a0.x2,a0.x3,a0.x4,a0.x5⟩:A5 (Int))).x4)])) (some (bx [3] [An e1,An 0,An (((⟨0,0,0,0,0⟩:A5 (Int))).x0),An (((⟨0,0,0,0,0⟩:A5 (Int))).x1),An (((⟨0,0,0,0,0⟩:A5 (Int))).x2),An (((⟨0,0,0,0,0⟩:A5 (Int))).x3),An (((⟨0,0,0,0,0⟩:A5 (Int))).x4)])),some (bx [2] [An 0,An 0,An (((⟨0,0,0,0,0⟩:A5 (Int))).x0),An (((⟨0,0,0,0,0⟩:A5 (Int))).x1),An (((⟨0,0,0,0,0⟩:A5 (Int))).x2),An (((⟨0,0,0,0,0⟩:A5 (Int))).x3),An (((⟨0,0,0,0,0⟩:A5 (Int))).x4)]),some (bx [1] (we (eI .i64) a0))],[],[]⟩) [[],[0<=(0:Int)/\(0:Int)<((5:Nat):Int)/\(0:Int)<=((5:Nat):Int)/\((5:Nat):Int)<=((5:Nat):Int)],[0<=(1:Int)/\(1:Int)<((6:Nat):Int)/\(1:Int)<=((6:Nat):Int)/\((6:Nat):Int)<=((6:Nat):Int)],[[An e1,An 0,An (((⟨0,0,0,0,0⟩:A5 (Int))).x0),An (((⟨0,0,0,0,0⟩:A5 (Int))).x1),An (((⟨0,0,0,0,0⟩:A5 (Int))).x2),An (((⟨0,0,0,0,0⟩:A5 (Int))).x3),An (((⟨0,0,0,0,0⟩:A5 (Int))).x4)].take 2++((we (eI .i64) a0).drop 1).take 5++[An e1,An 0,An (((⟨0,0,0,0,0⟩:A5 (Int))).x0),An (((⟨0,0,0,0,0⟩:A5 (Int))).x1),An (((⟨0,0,0,0,0⟩:A5 (Int))).x2),An (((⟨0,0,0,0,0⟩:A5 (Int))).x3),An (((⟨0,0,0,0,0⟩:A5 (Int))).x4)].drop (2+(((we (eI .i64) a0).drop 1).take 5).length)=[An e1,An 0,An (((⟨a0.x1,a0.x2,a0.x3,a0.x4,a0.x5⟩:A5 (Int))).x0),An (((⟨a0.x1,a0.x2,a0.x3,a0.x4,a0.x5⟩:A5 (Int))).x1),An (((⟨a0.x1,a0.x2,a0.x3,a0.x4,a0.x5⟩:A5 (Int))).x2),An (((⟨a0.x1,a0.x2,a0.x3,a0.x4,a0.x5⟩:A5 (Int))).x3),An (((⟨a0.x1,a0.x2,a0.x3,a0.x4,a0.x5⟩:A5 (Int))).x4)],((none:Option (TypeId×Nat×Nat))=none)/\True]] OB (by kernel_rfl) (by kernel_rfl) (by decide) (B8.t (by kernel_rfl)) (by kernel_rfl) ⟨trivial,⟨(by decide),trivial⟩,⟨(by decide),trivial⟩,⟨(by kernel_rfl),⟨rfl,trivial⟩,trivial⟩,trivial⟩<|Tn<|Gs (uo [1,7,8,9,10] [] [.k 0,.k 1])<|Gg [.a,.a] (uo [3] [] [.e (bx [2] [An e1,An 0,An (((⟨a0.x1,a0.x2,a0.x3,a0.x4,a0.x5⟩:A5 (Int))).x0),An (((⟨a0.x1,a0.x2,a0.x3,a0.x4,a0.x5⟩:A5 (Int))).x1),An (((⟨a0.x1,a0.x2,a0.x3,a0.x4,a0.x5⟩:A5 (Int))).x2),An (((⟨a0.x1,a0.x2,a0.x3,a0.x4,a0.x5⟩:A5 (Int))).x3),An (((⟨a0.x1,a0.x2,a0.x3,a0.x4,a0.x5⟩:A5 (Int))).x4)])]) (aN)<|hR<|bE (.agg [An e1,An 0,An (((⟨a0.x1,a0.x2,a0.x3,a0.x4,a0.x5⟩:A5 (Int))).x0),An (((⟨a0.x1,a0.x2,a0.x3,a0.x4,a0.x5⟩:A5 (Int))).x1),An (((⟨a0.x1,a0.x2,a0.x3,a0.x4,a0.x5⟩:A5 (Int))).x2),An (((⟨a0.x1,a0.x2,a0.x3,a0.x4,a0.x5⟩:A5 (Int))).x3),An (((⟨a0.x1,a0.x2,a0.x3,a0.x4,a0.x5⟩:A5 (Int))).x4)]) (.agg (FJ (⟨e1,0,(⟨a0.x1,a0.x2,a0.x3,a0.x4,a0.x5⟩:A5 (Int))⟩:AG))) (congrArg (vA FJ) (sI h))def aj2:CE TE Tryz.prog I0:=⟨306,[.s 59],[.s 99],fun x=>Ms x.1,fun x r h=>IC (by kernel_rfl) (gz (r:=r) h),[],fun h=>absurd rfl h,none,(fun _ h=>nomatch h),none,(fun _ _ h=>nomatch h)⟩
def NC (amq:Bool):Option (Bool×Bool):=
 some (amq,true)
def ND (jJ2:(Bool)->Option (Bool×Bool)) (asj:Bool):Option (Bool×Bool):=
 (if asj then
  jJ2 false
 else
  some (true,false))
def Js (a0:Int):Option (Bool×Bool):=
 jn (fun(v:Bool)=>NC v) (fun jJ2=>
 (if a0==9 then
  jJ2 true
 else
  jn (fun(v:Bool)=>ND jJ2 v) (fun jJ5=>
  (if a0==1 then
   jJ5 (a0==1)
  else if a0==2 then
   jJ5 (a0==2)
  else if a0==3 then
   jJ5 (a0==3)
  else if a0==4 then
   jJ5 (a0==4)
  else if a0==5 then
   jJ5 (a0==5)
  else if a0==6 then
   jJ5 (a0==6)
  else if a0==7 then
   jJ5 (a0==7)
  else
   jJ5 (a0==14)))))
def Y2:Cj:=mC [] 264 Tryz.f264 (.s .n (.s .n (.s (.s .n (.j ⟨[],[JL 4],[],[]⟩ (.s (.s (.s .n (.j ⟨[4],[JL 8],[],[]⟩ .n .n)) .n) .n) .n)) .n))) [.k (.int .i64)] [.k (.bool), .k (.bool)] (fun x=>Js x.1) Tryz.func264 (by kernel_rfl)
def FT (a0:Int):Option ((List UInt8)):=
 (if a0==0 then
  some qk
 else if a0==1 then
  some zi
 else if a0==2 then
  some am
 else
  some ([]:List UInt8))
def Se:Cj:=mC [] 265 Tryz.f265 .n [.k (.int .i64)] [.k (.str)] (fun x=>FT x.1) Tryz.func265 (by kernel_rfl)
def QM (a0:Bx):Option (Bool):=
 some ((JS .i64 a0.agD.Types (6:Int)) != (0:Int))
def gB:Cj:=mC [] 151 Tryz.f151 .n [.s 102] [.k (.bool)] (fun x=>QM x.1) Tryz.func151 (by kernel_rfl)
def LL (a0:Bx):Option (Bool):=
 (some (if a0.Token then true else(JS .i64 a0.agD.Types (32:Int)) != (0:Int))).bind fun b1=>
 some b1
def VR:Cj:=mC [] 152 Tryz.f152 .n [.s 102] [.k (.bool)] (fun x=>LL x.1) Tryz.func152 (by kernel_rfl)
def NE (ada:Int):Option (Int):=
 some ada
def NF (jJ2:(Int)->Option (Int)):Option (Int):=
 jJ2 (-1:Int)
def D0 (a0:List (Bx)) (a1:List UInt8) (ae8:Int):Option ((Int)⊕(Unit⊕Int)):=
 (if(decide (ae8<(a0.length:Int))) then
  (idx a0 ae8).bind fun e9=>
  (if e9.Name==a1 then
   some (.inr (.inr ae8))
  else
   some (.inl (Ac (ae8+1))))
 else
  some (.inr (.inl ())))
def Jt (a0:List (Bx)) (a1:List UInt8):Option (Int):=
 jn (fun(v:Int)=>NE v) (fun jJ2=>
 jn (fun(v:Unit)=>NF jJ2) (fun jJ3=>
 (iter (fun(v:Int)=>D0 a0 a1 v) FU (0:Int)).bind (Sum.elim (fun o0=>jJ3 ()) (fun o1=>jJ2 o1))))
def Y3:Cj:=mC [] 99 Tryz.f99 (.s .n (.s (.r [] [] (.j 2 ⟨[],[BS 7],[],[]⟩ (.s .n (.j ⟨[],[],[[3]],[]⟩ (.s .n (.l ⟨[0,1,7],[BS 8],[[3]],[]⟩ [(1,⟨[],[],[[3]],[]⟩),(0,⟨[],[BS 4],[[3]],[]⟩)] (.s .n (.s .n (.s (.s .n (.s (.r [] [] (.c 5 .n .n)) .n)) .n))))) .n)) .n)) .n)) [.k (.t_ 102), .k (.str)] [.k (.int .i64)] (fun x=>Jt x.1 x.2.1) Tryz.func99 (by kernel_rfl)
def Mt:Option (Bool):=
 some false
def Mu (agS:Int):Option ((Int)⊕(Unit⊕Bool)):=
 some (.inl (Ac (agS+1)))
def En (aff:Int) (e14:AA) (ao2:Int):Option ((Int)⊕(Unit⊕Bool)):=
 (some (if e14.Op==12 then !(decide (0<=ao2))else false)).bind fun b17=>
 (if b17 then
  some (.inr (.inr true))
 else
  some (.inl (Ac (aff+1))))
def Lp (aiJ:(Int)->Option ((Int)⊕(Unit⊕Bool))):Option ((Int)⊕(Unit⊕Bool)):=
 aiJ (-1:Int)
def CH (a0:List (Bx)) (e14:AA) (agI:Int):Option ((Int)⊕(Unit⊕Int)):=
 (if(decide (agI<(a0.length:Int))) then
  (idx a0 agI).bind fun e25=>
  (some (if e25.Name==e14.Ti then e25.Token else false)).bind fun b26=>
  (if b26 then
   some (.inr (.inr agI))
  else
   some (.inl (Ac (agI+1))))
 else
  some (.inr (.inl ())))
def Dh (a0:List (Bx)) (e8:AL) (aff:Int):Option ((Int)⊕(Unit⊕Bool)):=
 (if(decide (aff<(e8.G_.length:Int))) then
  (idx e8.G_ aff).bind fun e14=>
  jn (fun(v:Int)=>En aff e14 v) (fun aiJ=>
  jn (fun(v:Unit)=>Lp aiJ) (fun afS=>
  (iter (fun(v:Int)=>CH a0 e14 v) FU (0:Int)).bind (Sum.elim (fun o0=>afS ()) (fun o1=>aiJ o1))))
 else
  some (.inr (.inl ())))
def Dy (a0:List (Bx)) (a1:Bx) (agS:Int):Option ((Int)⊕(Unit⊕Bool)):=
 (if(decide (agS<(a1.z_.length:Int))) then
  jn (fun(v:Unit)=>Mu agS) (fun jJ7=>
  (idx a1.z_ agS).bind fun e8=>
  (iter (fun(v:Int)=>Dh a0 e8 v) FU (0:Int)).bind (Sum.elim (fun o0=>jJ7 ()) (fun o1=>some (.inr (.inr o1)))))
 else
  some (.inr (.inl ())))
def Ie (a0:List (Bx)) (a1:Bx):Option (Bool):=
 jn (fun(v:Unit)=>Mt) (fun jJ1=>
 (iter (fun(v:Int)=>Dy a0 a1 v) FU (0:Int)).bind (Sum.elim (fun o0=>jJ1 ()) (fun o1=>some o1)))
def VS:Cj:=mC [] 100 Tryz.f100 (.s .n (.j M5 (.s .n (.l ⟨[0,11,12],[BS 13],[],[]⟩ [(1,M5),(0,⟨[],[JL 4],[],[]⟩)] (.s .n (.s .n (.j ⟨[0,11,12,13],[],[],[]⟩ (.s .n (.s .n (.l ⟨[0,11,12,13,18,19],[BS 20],[],[]⟩ [(3,⟨[0,11,12,13],[],[],[]⟩),(0,⟨[],[JL 4],[],[]⟩)] (.s .n (.s .n (.s (.s .n (.s (.r [] [] (.c 2 (.s .n (.s (.r [] [] (.j 2 ⟨[],[BS 7],[[8]],[]⟩ (.s .n (.j ⟨[],[],[[8]],[]⟩ (.s .n (.l ⟨[0,1,7],[BS 8],[[8]],[]⟩ [(1,⟨[],[],[[8]],[]⟩),(0,⟨[],[BS 4],[[8]],[]⟩)] (.s .n (.s .n (.s (.s .n (.s (.r [] [] (.c 5 .n .n)) .n)) .n))))) .n)) .n)) .n)) .n)) .n)) .n)))))) .n))))) .n)) [.k (.t_ 102), .s 102] [.k (.bool)] (fun x=>Ie x.1 x.2.1) Tryz.func100 (by kernel_rfl)
def ax (ac6:Int) (ab5:List (Ar)) (ano:Int) (akN:Int) (anp:Int) (akM:Bool) (ahW:Int) (ajC:Int) (ajD:Int) (ahm:Int) (al5:Int) (al6:Int) (ajB:Int):Option (Aa):=
 (n_ (ac6=((ab5.length:Nat):Int))).bind fun _=>
 some (⟨ab5,([]:List (Ag)),([]:List (Int)),([]:List (Int)),([]:List (A7)),([]:List (AM)),([]:List (Cv)),ano,akN,anp,akM,ahW,ajC,ajD,ahm,al5,([]:List (Int)),al6,ajB⟩:Aa)
def gC (a0:Int) (a1:Int) (a2:Int) (ac6:Int) (ab5:List (Ar)):Option (Aa):=
 jn (fun(v:Int×Int×Int×Bool×Int×Int×Int×Int×Int×Int×Int)=>ax ac6 ab5 v.1 v.2.1 v.2.2.1 v.2.2.2.1 v.2.2.2.2.1 v.2.2.2.2.2.1 v.2.2.2.2.2.2.1 v.2.2.2.2.2.2.2.1 v.2.2.2.2.2.2.2.2.1 v.2.2.2.2.2.2.2.2.2.1 v.2.2.2.2.2.2.2.2.2.2) (fun aow=>
 (some (if decide (0<a1) then decide (a1<(if 4<(if a0<2 then(2:Int)else a0)then(4:Int)else(if a0<2 then(2:Int)else a0)))else false)).bind fun b19=>
 (if b19 then
  aow ((0:Int),a1,(0:Int),false,a1,(0:Int),(1:Int),(1:Int),a2,(0:Int),(-1:Int))
 else
  aow ((0:Int),(0:Int),(0:Int),false,(0:Int),(0:Int),(1:Int),(1:Int),a2,(0:Int),(-1:Int))))
def ay (l2:List (Ar)) (afe:Int) (adY:Int) (abA:List (Ar)):Option ((Int×Int×(List (Ar)))⊕((Int×(List (Ar))))):=
 (if(decide (afe<(l2.length:Int))) then
  (idx abA afe).bind fun e32=>
  (idx abA afe).bind fun e33=>
  (some (abA.set (afe).toNat ({e33 with adC:=(20:Int)}))).bind fun l34=>
  some (.inl ((Ac (afe+1)),adY,l34))
 else
  some (.inr (adY,abA)))
def Ua (a0:Int) (a1:Int) (a2:Int):Option (Aa):=
 (n_ (0<=(if 4<(if a0<2 then(2:Int)else a0)then(4:Int)else(if a0<2 then(2:Int)else a0))/\(if 4<(if a0<2 then(2:Int)else a0)then(4:Int)else(if a0<2 then(2:Int)else a0))<=(if 4<(if a0<2 then(2:Int)else a0)then(4:Int)else(if a0<2 then(2:Int)else a0))/\(if 4<(if a0<2 then(2:Int)else a0)then(4:Int)else(if a0<2 then(2:Int)else a0))*152<=140737488355328/\(if 4<(if a0<2 then(2:Int)else a0)then(4:Int)else(if a0<2 then(2:Int)else a0))<=maxLen)).bind fun u1=>
 (some (List.replicate ((if 4<(if a0<2 then(2:Int)else a0)then(4:Int)else(if a0<2 then(2:Int)else a0))).toNat (⟨0,0,0,(⟨0,0,0,0,0,0⟩:A6 (Int)),false,false,([]:List (Int)),([]:List (Int)),([]:List (Int))⟩:Ar))).bind fun l2=>
 (n_ (0<l2.length)).bind fun u3=>
 jn (fun(v:Int×(List (Ar)))=>gC a0 a1 a2 v.1 v.2) (fun jJ6=>
 (iter (fun(v:Int×Int×(List (Ar)))=>ay l2 v.1 v.2.1 v.2.2) FU ((0:Int),((l2.length:Nat):Int),l2)).bind (fun o0=>jJ6 (o0.1,o0.2)))
def kZ:Cj:=mX [] 22 Tryz.f22 (.s .n (.s .n (.s (.r [] [([8],1,[1001,8],70)] (.q 1 .mk .n)) (.j ⟨[1,6,7,8],[],[[6],[8],[1001,8]],[([1000003,14], .deep 61)]⟩ (.s .n (.l ⟨[1,6,7,8,19],[BS 20],[[6],[8],[1001,8]],[([1000003,14], .deep 61)]⟩ [(1,⟨[1,6,7,8],[],[[6],[8],[1001,8]],[([1000003,14], .deep 61)]⟩)] (.s .n (.s .n (.s (.s .n (.r [] [] (.q 5 .au .n))) .n))))) (.j ⟨[6,8],[],[[6],[1001,8],[1000003,14]],[([8], .box [.c (.j_ [1000003,14]), .c (.j_ [1001,8]), .c (.L_), .c (.L_), .c (.L_), .c (.L_), .c (.L_),Bd,Bd,Bd,GJ,Bd,Bd,Bd,Bd, .v (.k (.int .u64)), .c (.L_),Bd,Bd])]⟩ .n .n))))) [[2,1,0,0,0,0,0,0,0,0,0,0,0,0,0,0,0,0,0]] [.k (.int .i64), .k (.int .i64), .k (.int .u64)] [.s 36] (fun x=>Ua x.1 x.2.1 x.2.2.1) Tryz.func22 (by kernel_rfl)
def Ap (a0:List (Int)):Option (List (Int)):=if a0.length*8<=140737488355328/\a0.length<=maxLen then some a0 else none
theorem LM {a0 r:List (Int)} (h:Ap a0=some r):BW Tryz.prog I0 55 [vL (eI .i64) a0] 3 1 (fun len cs=>len=r.length/\cs=r.flatMap (eI .i64)):=by
 refine BW.of (t:=2) (m:=8) BT (by kernel_rfl) Tryz.func55 rfl rfl Tryz.ntmps55 ?_;intro w0 av old gv;unfold Ap at h;split at h
 ·rename_i hb;injection h with h;subst h;refine Rg [.a] (sl 8 [(0,vL (eI .i64) a0)] []) (aN) ?_;refine Ad.seq ?_;refine Ad.seq ?_;refine Ad.region ?_;refine Rp 1 [.a] (sl 8 [(0,vL (eI .i64) a0),(3,vL (eI .i64) a0)] []) (aN) ?_;refine Run.inl rfl rfl (DL.ahC (len:=a0.length) (cs:=a0.flatMap (eI .i64)) rfl (fun b hbn=>?_));refine Rw [] (sl 8 [(0,vL (eI .i64) a0),(3,vL (eI .i64) a0),(4,vB b)] []) (aN) ?_;refine Tn ?_;refine Ad.ifB b (by kernel_rfl) (fun hb1=>?_) (fun hb1=>?_)
  ·have h0:a0=[]:=length_eq_zero_iff.1 (hbn hb1);refine Rg [.a] (sl 8 [(2, .c (.j_ [2]))] [Jd [2] 3 1 (eI .i64) ([]:List (Int))]) (aN) ?_;refine Ad.ret ?_;refine Tr ?_;exact⟨.inr rfl, .inl ⟨[2],Jd [2] 3 1 (eI .i64) ([]:List (Int)),0,by kernel_rfl,by kernel_rfl,by kernel_rfl,by kernel_rfl,by rw [h0];exact⟨rfl,rfl⟩⟩⟩
  ·refine Ad.skip ?_;refine Tn ?_;have hr:app 8 ([]:List (Int)) a0=some a0:=by unfold app;rw [if_pos ⟨by simpa using hb.1,by simpa using hb.2⟩];rfl
   refine Rg [.a, .a,(.e a0.length (a0.flatMap (eI .i64))), .a] (sl 8 [(2, .c (.j_ [5]))] [Jd [5] 3 1 (eI .i64) a0]) (aC (show (a0.flatMap (eI .i64)).length =a0.length*1 from BO (enc:=eI .i64) (n:=1) (tY .i64) _)<|aC (rx hr (eI .i64))<|aC (Kf hr)<|aN) ?_;refine Ad.ret ?_;exact⟨.inr rfl, .inl ⟨[5],Jd [5] 3 1 (eI .i64) a0,a0.length,by kernel_rfl,by kernel_rfl,by kernel_rfl,AV _ (fun _=>rfl) _,⟨rfl,rfl⟩⟩⟩
 ·cases h
def BI:CE TE Tryz.prog I0:=VO 55 [.k (.t_ 3)] 3 (fun x=>Ap x.1) (fun x r h=>IC (by kernel_rfl) (LM (r:=r) h))
def Ub (a0:Int):Option (Int×Int):=
 some (Q3 .u64 (IntKind.u64.wrap ((Q3 .u64 (IntKind.u64.wrap ((Q3 .u64 (IntKind.u64.wrap (a0+11400714819323198485)) (Int.fdiv (IntKind.u64.wrap (a0+11400714819323198485)) (2 ^ (min ((30:Int)).toNat (IntKind.u64).bits))))*(13787848793156543929:Int))) (Int.fdiv (IntKind.u64.wrap ((Q3 .u64 (IntKind.u64.wrap (a0+11400714819323198485)) (Int.fdiv (IntKind.u64.wrap (a0+11400714819323198485)) (2 ^ (min ((30:Int)).toNat (IntKind.u64).bits))))*(13787848793156543929:Int))) (2 ^ (min ((27:Int)).toNat (IntKind.u64).bits))))*(10723151780598845931:Int))) (Int.fdiv (IntKind.u64.wrap ((Q3 .u64 (IntKind.u64.wrap ((Q3 .u64 (IntKind.u64.wrap (a0+11400714819323198485)) (Int.fdiv (IntKind.u64.wrap (a0+11400714819323198485)) (2 ^ (min ((30:Int)).toNat (IntKind.u64).bits))))*(13787848793156543929:Int))) (Int.fdiv (IntKind.u64.wrap ((Q3 .u64 (IntKind.u64.wrap (a0+11400714819323198485)) (Int.fdiv (IntKind.u64.wrap (a0+11400714819323198485)) (2 ^ (min ((30:Int)).toNat (IntKind.u64).bits))))*(13787848793156543929:Int))) (2 ^ (min ((27:Int)).toNat (IntKind.u64).bits))))*(10723151780598845931:Int))) (2 ^ (min ((31:Int)).toNat (IntKind.u64).bits))),IntKind.u64.wrap (a0+11400714819323198485))
def la:Cj:=mC [] 101 Tryz.f101 .n [.k (.int .u64)] [.k (.int .u64), .k (.int .u64)] (fun x=>Ub x.1) Tryz.func101 (by kernel_rfl)
def Nb (a0:Int) (a1:Int) (a2:Int) (a3:Int) (a4:Int):Option (Ag):=
 some (⟨a0,a1,a2,a2,a3,false,false,false,false,0,(⟨0,0,0⟩:A3 (Int)),a4,(-1:Int),(-1:Int),false,0,0⟩:Ag)
def Sf:Cj:=mC [] 24 Tryz.f24 .n [.k (.int .i64), .k (.int .i64), .k (.int .i64), .k (.int .i64), .k (.int .i64)] [.s 70] (fun x=>Nb x.1 x.2.1 x.2.2.1 x.2.2.2.1 x.2.2.2.2.1) Tryz.func24 (by kernel_rfl)
def Cg (a0:List (Int)):Option (List (Int)):=if a0.length*8<=140737488355328/\a0.length<=maxLen then some a0 else none
theorem QN {a0 r:List (Int)} (h:Cg a0=some r):BW Tryz.prog I0 32 [vL (eI .i64) a0] 3 1 (fun len cs=>len=r.length/\cs=r.flatMap (eI .i64)):=by
 refine BW.of (t:=2) (m:=7) BT (by kernel_rfl) Tryz.func32 rfl rfl Tryz.ntmps32 ?_;intro w0 av old gv;unfold Cg at h;split at h
 ·rename_i hb;injection h with h;subst h;refine Rg [.a] (sl 7 [(0,vL (eI .i64) a0)] []) (aN) ?_;have hr:app 8 ([]:List (Int)) a0=some a0:=by unfold app;rw [if_pos ⟨by simpa using hb.1,by simpa using hb.2⟩];rfl
  refine Ad.seq ?_;refine Ad.region ?_;refine Rp 1 [.a] (sl 7 [(0,vL (eI .i64) a0),(3,vL (eI .i64) a0)] []) (aN) ?_;refine Run.inl rfl rfl (DL.clip (len:=a0.length) (cs:=a0.flatMap (eI .i64)) 3 1 4 rfl rfl ?_);refine Rw [.a,(.e a0.length (a0.flatMap (eI .i64))), .a] (sl 7 [(0,vL (eI .i64) a0),(2, .c (.j_ [4])),(3,vL (eI .i64) a0),(5,vL (eI .i64) a0),(6, .c (.j_ [4]))] [Jd [4] 3 1 (eI .i64) a0]) (aC (show (a0.flatMap (eI .i64)).length =a0.length*1 from BO (enc:=eI .i64) (n:=1) (tY .i64) _)<|aC (rx hr (eI .i64))<|aC (Kf hr)<|aN) ?_;refine Tn ?_;refine Ad.ret ?_;exact⟨.inr rfl, .inl ⟨[4],Jd [4] 3 1 (eI .i64) a0,a0.length,by kernel_rfl,by kernel_rfl,by kernel_rfl,AV _ (fun _=>rfl) _,⟨rfl,rfl⟩⟩⟩
 ·cases h
def Mv:CE TE Tryz.prog I0:=VO 32 [.k (.t_ 3)] 3 (fun x=>Cg x.1) (fun x r h=>IC (by kernel_rfl) (QN (r:=r) h))
def AZ (a0:List (Ar)):Option (List (Ar)):=if a0.length*152<=140737488355328/\a0.length<=maxLen then some a0 else none
theorem EL {a0 r:List (Ar)} (h:AZ a0=some r):BW Tryz.prog I0 65 [vL (Br) a0] 61 14 (fun len cs=>len=r.length/\cs=r.flatMap (Br)):=by
 refine BW.of (t:=2) (m:=8) BT (by kernel_rfl) Tryz.func65 rfl rfl Tryz.ntmps65 ?_;intro w0 av old gv;unfold AZ at h;split at h
 ·rename_i hb;injection h with h;subst h;refine Rg [.a] (sl 8 [(0,vL (Br) a0)] []) (aN) ?_;refine Ad.seq ?_;refine Ad.seq ?_;refine Ad.region ?_;refine Rp 1 [.a] (sl 8 [(0,vL (Br) a0),(3,vL (Br) a0)] []) (aN) ?_;refine Run.inl rfl rfl (DL.ahC (len:=a0.length) (cs:=a0.flatMap (Br)) rfl (fun b hbn=>?_));refine Rw [] (sl 8 [(0,vL (Br) a0),(3,vL (Br) a0),(4,vB b)] []) (aN) ?_;refine Tn ?_;refine Ad.ifB b (by kernel_rfl) (fun hb1=>?_) (fun hb1=>?_)
  ·have h0:a0=[]:=length_eq_zero_iff.1 (hbn hb1);refine Rg [.a] (sl 8 [(2, .c (.j_ [2]))] [Jd [2] 61 14 (Br) ([]:List (Ar))]) (aN) ?_;refine Ad.ret ?_;refine Tr ?_;exact⟨.inr rfl, .inl ⟨[2],Jd [2] 61 14 (Br) ([]:List (Ar)),0,by kernel_rfl,by kernel_rfl,by kernel_rfl,by kernel_rfl,by rw [h0];exact⟨rfl,rfl⟩⟩⟩
  ·refine Ad.skip ?_;refine Tn ?_;have hr:app 152 ([]:List (Ar)) a0=some a0:=by unfold app;rw [if_pos ⟨by simpa using hb.1,by simpa using hb.2⟩];rfl
   refine Rg [.a, .a,(.e a0.length (a0.flatMap (Br))), .a] (sl 8 [(2, .c (.j_ [5]))] [Jd [5] 61 14 (Br) a0]) (aC (show (a0.flatMap (Br)).length =a0.length*14 from BO (enc:=Br) (n:=14) oa _)<|aC (rx hr (Br))<|aC (Kf hr)<|aN) ?_;refine Ad.ret ?_;exact⟨.inr rfl, .inl ⟨[5],Jd [5] 61 14 (Br) a0,a0.length,by kernel_rfl,by kernel_rfl,by kernel_rfl,AV _ (fun _=>rfl) _,⟨rfl,rfl⟩⟩⟩
 ·cases h
def Fw:CE TE Tryz.prog I0:=VO 65 [.k (.t_ 61)] 61 (fun x=>AZ x.1) (fun x r h=>IC (by kernel_rfl) (EL (r:=r) h))
def A0 (a0:List (Ag)):Option (List (Ag)):=if a0.length*128<=140737488355328/\a0.length<=maxLen then some a0 else none
theorem EM {a0 r:List (Ag)} (h:A0 a0=some r):BW Tryz.prog I0 67 [vL (AH) a0] 70 19 (fun len cs=>len=r.length/\cs=r.flatMap (AH)):=by
 refine BW.of (t:=2) (m:=8) BT (by kernel_rfl) Tryz.func67 rfl rfl Tryz.ntmps67 ?_;intro w0 av old gv;unfold A0 at h;split at h
 ·rename_i hb;injection h with h;subst h;refine Rg [.a] (sl 8 [(0,vL (AH) a0)] []) (aN) ?_;refine Ad.seq ?_;refine Ad.seq ?_;refine Ad.region ?_;refine Rp 1 [.a] (sl 8 [(0,vL (AH) a0),(3,vL (AH) a0)] []) (aN) ?_;refine Run.inl rfl rfl (DL.ahC (len:=a0.length) (cs:=a0.flatMap (AH)) rfl (fun b hbn=>?_));refine Rw [] (sl 8 [(0,vL (AH) a0),(3,vL (AH) a0),(4,vB b)] []) (aN) ?_;refine Tn ?_;refine Ad.ifB b (by kernel_rfl) (fun hb1=>?_) (fun hb1=>?_)
  ·have h0:a0=[]:=length_eq_zero_iff.1 (hbn hb1);refine Rg [.a] (sl 8 [(2, .c (.j_ [2]))] [Jd [2] 70 19 (AH) ([]:List (Ag))]) (aN) ?_;refine Ad.ret ?_;refine Tr ?_;exact⟨.inr rfl, .inl ⟨[2],Jd [2] 70 19 (AH) ([]:List (Ag)),0,by kernel_rfl,by kernel_rfl,by kernel_rfl,by kernel_rfl,by rw [h0];exact⟨rfl,rfl⟩⟩⟩
  ·refine Ad.skip ?_;refine Tn ?_;have hr:app 128 ([]:List (Ag)) a0=some a0:=by unfold app;rw [if_pos ⟨by simpa using hb.1,by simpa using hb.2⟩];rfl
   refine Rg [.a, .a,(.e a0.length (a0.flatMap (AH))), .a] (sl 8 [(2, .c (.j_ [5]))] [Jd [5] 70 19 (AH) a0]) (aC (show (a0.flatMap (AH)).length =a0.length*19 from BO (enc:=AH) (n:=19) oc _)<|aC (rx hr (AH))<|aC (Kf hr)<|aN) ?_;refine Ad.ret ?_;exact⟨.inr rfl, .inl ⟨[5],Jd [5] 70 19 (AH) a0,a0.length,by kernel_rfl,by kernel_rfl,by kernel_rfl,AV _ (fun _=>rfl) _,⟨rfl,rfl⟩⟩⟩
 ·cases h
def Fz:CE TE Tryz.prog I0:=VO 67 [.k (.t_ 70)] 70 (fun x=>A0 x.1) (fun x r h=>IC (by kernel_rfl) (EM (r:=r) h))
def BJ (a0:List (A7)):Option (List (A7)):=if a0.length*824<=140737488355328/\a0.length<=maxLen then some a0 else none
theorem F9 {a0 r:List (A7)} (h:BJ a0=some r):BW Tryz.prog I0 68 [vL (Cd) a0] 126 94 (fun len cs=>len=r.length/\cs=r.flatMap (Cd)):=by
 refine BW.of (t:=2) (m:=8) BT (by kernel_rfl) Tryz.func68 rfl rfl Tryz.ntmps68 ?_;intro w0 av old gv;unfold BJ at h;split at h
 ·rename_i hb;injection h with h;subst h;refine Rg [.a] (sl 8 [(0,vL (Cd) a0)] []) (aN) ?_;refine Ad.seq ?_;refine Ad.seq ?_;refine Ad.region ?_;refine Rp 1 [.a] (sl 8 [(0,vL (Cd) a0),(3,vL (Cd) a0)] []) (aN) ?_;refine Run.inl rfl rfl (DL.ahC (len:=a0.length) (cs:=a0.flatMap (Cd)) rfl (fun b hbn=>?_));refine Rw [] (sl 8 [(0,vL (Cd) a0),(3,vL (Cd) a0),(4,vB b)] []) (aN) ?_;refine Tn ?_;refine Ad.ifB b (by kernel_rfl) (fun hb1=>?_) (fun hb1=>?_)
  ·have h0:a0=[]:=length_eq_zero_iff.1 (hbn hb1);refine Rg [.a] (sl 8 [(2, .c (.j_ [2]))] [Jd [2] 126 94 (Cd) ([]:List (A7))]) (aN) ?_;refine Ad.ret ?_;refine Tr ?_;exact⟨.inr rfl, .inl ⟨[2],Jd [2] 126 94 (Cd) ([]:List (A7)),0,by kernel_rfl,by kernel_rfl,by kernel_rfl,by kernel_rfl,by rw [h0];exact⟨rfl,rfl⟩⟩⟩
  ·refine Ad.skip ?_;refine Tn ?_;have hr:app 824 ([]:List (A7)) a0=some a0:=by unfold app;rw [if_pos ⟨by simpa using hb.1,by simpa using hb.2⟩];rfl
   refine Rg [.a, .a,(.e a0.length (a0.flatMap (Cd))), .a] (sl 8 [(2, .c (.j_ [5]))] [Jd [5] 126 94 (Cd) a0]) (aC (show (a0.flatMap (Cd)).length =a0.length*94 from BO (enc:=Cd) (n:=94) wh _)<|aC (rx hr (Cd))<|aC (Kf hr)<|aN) ?_;refine Ad.ret ?_;exact⟨.inr rfl, .inl ⟨[5],Jd [5] 126 94 (Cd) a0,a0.length,by kernel_rfl,by kernel_rfl,by kernel_rfl,AV _ (fun _=>rfl) _,⟨rfl,rfl⟩⟩⟩
 ·cases h
def GY:CE TE Tryz.prog I0:=VO 68 [.k (.t_ 126)] 126 (fun x=>BJ x.1) (fun x r h=>IC (by kernel_rfl) (F9 (r:=r) h))
def A1 (a0:List (B4)):Option (List (B4)):=if a0.length*176<=140737488355328/\a0.length<=maxLen then some a0 else none
theorem GZ {a0 r:List (B4)} (h:A1 a0=some r):BW Tryz.prog I0 73 [vL (B1) a0] 148 20 (fun len cs=>len=r.length/\cs=r.flatMap (B1)):=by
 refine BW.of (t:=2) (m:=8) BT (by kernel_rfl) Tryz.func73 rfl rfl Tryz.ntmps73 ?_;intro w0 av old gv;unfold A1 at h;split at h
 ·rename_i hb;injection h with h;subst h;refine Rg [.a] (sl 8 [(0,vL (B1) a0)] []) (aN) ?_;refine Ad.seq ?_;refine Ad.seq ?_;refine Ad.region ?_;refine Rp 1 [.a] (sl 8 [(0,vL (B1) a0),(3,vL (B1) a0)] []) (aN) ?_;refine Run.inl rfl rfl (DL.ahC (len:=a0.length) (cs:=a0.flatMap (B1)) rfl (fun b hbn=>?_));refine Rw [] (sl 8 [(0,vL (B1) a0),(3,vL (B1) a0),(4,vB b)] []) (aN) ?_;refine Tn ?_;refine Ad.ifB b (by kernel_rfl) (fun hb1=>?_) (fun hb1=>?_)
  ·have h0:a0=[]:=length_eq_zero_iff.1 (hbn hb1);refine Rg [.a] (sl 8 [(2, .c (.j_ [2]))] [Jd [2] 148 20 (B1) ([]:List (B4))]) (aN) ?_;refine Ad.ret ?_;refine Tr ?_;exact⟨.inr rfl, .inl ⟨[2],Jd [2] 148 20 (B1) ([]:List (B4)),0,by kernel_rfl,by kernel_rfl,by kernel_rfl,by kernel_rfl,by rw [h0];exact⟨rfl,rfl⟩⟩⟩
  ·refine Ad.skip ?_;refine Tn ?_;have hr:app 176 ([]:List (B4)) a0=some a0:=by unfold app;rw [if_pos ⟨by simpa using hb.1,by simpa using hb.2⟩];rfl
   refine Rg [.a, .a,(.e a0.length (a0.flatMap (B1))), .a] (sl 8 [(2, .c (.j_ [5]))] [Jd [5] 148 20 (B1) a0]) (aC (show (a0.flatMap (B1)).length =a0.length*20 from BO (enc:=B1) (n:=20) zg _)<|aC (rx hr (B1))<|aC (Kf hr)<|aN) ?_;refine Ad.ret ?_;exact⟨.inr rfl, .inl ⟨[5],Jd [5] 148 20 (B1) a0,a0.length,by kernel_rfl,by kernel_rfl,by kernel_rfl,AV _ (fun _=>rfl) _,⟨rfl,rfl⟩⟩⟩
 ·cases h
def Dz:CE TE Tryz.prog I0:=VO 73 [.k (.t_ 148)] 148 (fun x=>A1 x.1) (fun x r h=>IC (by kernel_rfl) (GZ (r:=r) h))
def BK (a0:List (Ft)):Option (List (Ft)):=if a0.length*144<=140737488355328/\a0.length<=maxLen then some a0 else none
theorem Ga {a0 r:List (Ft)} (h:BK a0=some r):BW Tryz.prog I0 112 [vL (B5) a0] 184 18 (fun len cs=>len=r.length/\cs=r.flatMap (B5)):=by
 refine BW.of (t:=2) (m:=8) BT (by kernel_rfl) Tryz.func112 rfl rfl Tryz.ntmps112 ?_;intro w0 av old gv;unfold BK at h;split at h
 ·rename_i hb;injection h with h;subst h;refine Rg [.a] (sl 8 [(0,vL (B5) a0)] []) (aN) ?_;refine Ad.seq ?_;refine Ad.seq ?_;refine Ad.region ?_;refine Rp 1 [.a] (sl 8 [(0,vL (B5) a0),(3,vL (B5) a0)] []) (aN) ?_;refine Run.inl rfl rfl (DL.ahC (len:=a0.length) (cs:=a0.flatMap (B5)) rfl (fun b hbn=>?_));refine Rw [] (sl 8 [(0,vL (B5) a0),(3,vL (B5) a0),(4,vB b)] []) (aN) ?_;refine Tn ?_;refine Ad.ifB b (by kernel_rfl) (fun hb1=>?_) (fun hb1=>?_)
  ·have h0:a0=[]:=length_eq_zero_iff.1 (hbn hb1);refine Rg [.a] (sl 8 [(2, .c (.j_ [2]))] [Jd [2] 184 18 (B5) ([]:List (Ft))]) (aN) ?_;refine Ad.ret ?_;refine Tr ?_;exact⟨.inr rfl, .inl ⟨[2],Jd [2] 184 18 (B5) ([]:List (Ft)),0,by kernel_rfl,by kernel_rfl,by kernel_rfl,by kernel_rfl,by rw [h0];exact⟨rfl,rfl⟩⟩⟩
  ·refine Ad.skip ?_;refine Tn ?_;have hr:app 144 ([]:List (Ft)) a0=some a0:=by unfold app;rw [if_pos ⟨by simpa using hb.1,by simpa using hb.2⟩];rfl
   refine Rg [.a, .a,(.e a0.length (a0.flatMap (B5))), .a] (sl 8 [(2, .c (.j_ [5]))] [Jd [5] 184 18 (B5) a0]) (aC (show (a0.flatMap (B5)).length =a0.length*18 from BO (enc:=B5) (n:=18) wg _)<|aC (rx hr (B5))<|aC (Kf hr)<|aN) ?_;refine Ad.ret ?_;exact⟨.inr rfl, .inl ⟨[5],Jd [5] 184 18 (B5) a0,a0.length,by kernel_rfl,by kernel_rfl,by kernel_rfl,AV _ (fun _=>rfl) _,⟨rfl,rfl⟩⟩⟩
 ·cases h
def G4:CE TE Tryz.prog I0:=VO 112 [.k (.t_ 184)] 184 (fun x=>BK x.1) (fun x r h=>IC (by kernel_rfl) (Ga (r:=r) h))
def Bu (a0:List (AA)):Option (List (AA)):=if a0.length*560<=140737488355328/\a0.length<=maxLen then some a0 else none
theorem EN {a0 r:List (AA)} (h:Bu a0=some r):BW Tryz.prog I0 113 [vL (Bj) a0] 180 64 (fun len cs=>len=r.length/\cs=r.flatMap (Bj)):=by
 refine BW.of (t:=2) (m:=8) BT (by kernel_rfl) Tryz.func113 rfl rfl Tryz.ntmps113 ?_;intro w0 av old gv;unfold Bu at h;split at h
 ·rename_i hb;injection h with h;subst h;refine Rg [.a] (sl 8 [(0,vL (Bj) a0)] []) (aN) ?_;refine Ad.seq ?_;refine Ad.seq ?_;refine Ad.region ?_;refine Rp 1 [.a] (sl 8 [(0,vL (Bj) a0),(3,vL (Bj) a0)] []) (aN) ?_;refine Run.inl rfl rfl (DL.ahC (len:=a0.length) (cs:=a0.flatMap (Bj)) rfl (fun b hbn=>?_));refine Rw [] (sl 8 [(0,vL (Bj) a0),(3,vL (Bj) a0),(4,vB b)] []) (aN) ?_;refine Tn ?_;refine Ad.ifB b (by kernel_rfl) (fun hb1=>?_) (fun hb1=>?_)
  ·have h0:a0=[]:=length_eq_zero_iff.1 (hbn hb1);refine Rg [.a] (sl 8 [(2, .c (.j_ [2]))] [Jd [2] 180 64 (Bj) ([]:List (AA))]) (aN) ?_;refine Ad.ret ?_;refine Tr ?_;exact⟨.inr rfl, .inl ⟨[2],Jd [2] 180 64 (Bj) ([]:List (AA)),0,by kernel_rfl,by kernel_rfl,by kernel_rfl,by kernel_rfl,by rw [h0];exact⟨rfl,rfl⟩⟩⟩
  ·refine Ad.skip ?_;refine Tn ?_;have hr:app 560 ([]:List (AA)) a0=some a0:=by unfold app;rw [if_pos ⟨by simpa using hb.1,by simpa using hb.2⟩];rfl
   refine Rg [.a, .a,(.e a0.length (a0.flatMap (Bj))), .a] (sl 8 [(2, .c (.j_ [5]))] [Jd [5] 180 64 (Bj) a0]) (aC (show (a0.flatMap (Bj)).length =a0.length*64 from BO (enc:=Bj) (n:=64) n9 _)<|aC (rx hr (Bj))<|aC (Kf hr)<|aN) ?_;refine Ad.ret ?_;exact⟨.inr rfl, .inl ⟨[5],Jd [5] 180 64 (Bj) a0,a0.length,by kernel_rfl,by kernel_rfl,by kernel_rfl,AV _ (fun _=>rfl) _,⟨rfl,rfl⟩⟩⟩
 ·cases h
def FA:CE TE Tryz.prog I0:=VO 113 [.k (.t_ 180)] 180 (fun x=>Bu x.1) (fun x r h=>IC (by kernel_rfl) (EN (r:=r) h))
def Bv (a0:List (Fd)):Option (List (Fd)):=if a0.length*16<=140737488355328/\a0.length<=maxLen then some a0 else none
theorem EO {a0 r:List (Fd)} (h:Bv a0=some r):BW Tryz.prog I0 70 [vL (Bs) a0] 143 2 (fun len cs=>len=r.length/\cs=r.flatMap (Bs)):=by
 refine BW.of (t:=2) (m:=8) BT (by kernel_rfl) Tryz.func70 rfl rfl Tryz.ntmps70 ?_;intro w0 av old gv;unfold Bv at h;split at h
 ·rename_i hb;injection h with h;subst h;refine Rg [.a] (sl 8 [(0,vL (Bs) a0)] []) (aN) ?_;refine Ad.seq ?_;refine Ad.seq ?_;refine Ad.region ?_;refine Rp 1 [.a] (sl 8 [(0,vL (Bs) a0),(3,vL (Bs) a0)] []) (aN) ?_;refine Run.inl rfl rfl (DL.ahC (len:=a0.length) (cs:=a0.flatMap (Bs)) rfl (fun b hbn=>?_));refine Rw [] (sl 8 [(0,vL (Bs) a0),(3,vL (Bs) a0),(4,vB b)] []) (aN) ?_;refine Tn ?_;refine Ad.ifB b (by kernel_rfl) (fun hb1=>?_) (fun hb1=>?_)
  ·have h0:a0=[]:=length_eq_zero_iff.1 (hbn hb1);refine Rg [.a] (sl 8 [(2, .c (.j_ [2]))] [Jd [2] 143 2 (Bs) ([]:List (Fd))]) (aN) ?_;refine Ad.ret ?_;refine Tr ?_;exact⟨.inr rfl, .inl ⟨[2],Jd [2] 143 2 (Bs) ([]:List (Fd)),0,by kernel_rfl,by kernel_rfl,by kernel_rfl,by kernel_rfl,by rw [h0];exact⟨rfl,rfl⟩⟩⟩
  ·refine Ad.skip ?_;refine Tn ?_;have hr:app 16 ([]:List (Fd)) a0=some a0:=by unfold app;rw [if_pos ⟨by simpa using hb.1,by simpa using hb.2⟩];rfl
   refine Rg [.a, .a,(.e a0.length (a0.flatMap (Bs))), .a] (sl 8 [(2, .c (.j_ [5]))] [Jd [5] 143 2 (Bs) a0]) (aC (show (a0.flatMap (Bs)).length =a0.length*2 from BO (enc:=Bs) (n:=2) od _)<|aC (rx hr (Bs))<|aC (Kf hr)<|aN) ?_;refine Ad.ret ?_;exact⟨.inr rfl, .inl ⟨[5],Jd [5] 143 2 (Bs) a0,a0.length,by kernel_rfl,by kernel_rfl,by kernel_rfl,AV _ (fun _=>rfl) _,⟨rfl,rfl⟩⟩⟩
 ·cases h
def FB:CE TE Tryz.prog I0:=VO 70 [.k (.t_ 143)] 143 (fun x=>Bv x.1) (fun x r h=>IC (by kernel_rfl) (EO (r:=r) h))
def Bh (a0:List (AM)):Option (List (AM)):=if a0.length*768<=140737488355328/\a0.length<=maxLen then some a0 else none
theorem Ei {a0 r:List (AM)} (h:Bh a0=some r):BW Tryz.prog I0 71 [vL (A8) a0] 129 89 (fun len cs=>len=r.length/\cs=r.flatMap (A8)):=by
 refine BW.of (t:=2) (m:=8) BT (by kernel_rfl) Tryz.func71 rfl rfl Tryz.ntmps71 ?_;intro w0 av old gv;unfold Bh at h;split at h
 ·rename_i hb;injection h with h;subst h;refine Rg [.a] (sl 8 [(0,vL (A8) a0)] []) (aN) ?_;refine Ad.seq ?_;refine Ad.seq ?_;refine Ad.region ?_;refine Rp 1 [.a] (sl 8 [(0,vL (A8) a0),(3,vL (A8) a0)] []) (aN) ?_;refine Run.inl rfl rfl (DL.ahC (len:=a0.length) (cs:=a0.flatMap (A8)) rfl (fun b hbn=>?_));refine Rw [] (sl 8 [(0,vL (A8) a0),(3,vL (A8) a0),(4,vB b)] []) (aN) ?_;refine Tn ?_;refine Ad.ifB b (by kernel_rfl) (fun hb1=>?_) (fun hb1=>?_)
  ·have h0:a0=[]:=length_eq_zero_iff.1 (hbn hb1);refine Rg [.a] (sl 8 [(2, .c (.j_ [2]))] [Jd [2] 129 89 (A8) ([]:List (AM))]) (aN) ?_;refine Ad.ret ?_;refine Tr ?_;exact⟨.inr rfl, .inl ⟨[2],Jd [2] 129 89 (A8) ([]:List (AM)),0,by kernel_rfl,by kernel_rfl,by kernel_rfl,by kernel_rfl,by rw [h0];exact⟨rfl,rfl⟩⟩⟩
  ·refine Ad.skip ?_;refine Tn ?_;have hr:app 768 ([]:List (AM)) a0=some a0:=by unfold app;rw [if_pos ⟨by simpa using hb.1,by simpa using hb.2⟩];rfl
   refine Rg [.a, .a,(.e a0.length (a0.flatMap (A8))), .a] (sl 8 [(2, .c (.j_ [5]))] [Jd [5] 129 89 (A8) a0]) (aC (show (a0.flatMap (A8)).length =a0.length*89 from BO (enc:=A8) (n:=89) kE _)<|aC (rx hr (A8))<|aC (Kf hr)<|aN) ?_;refine Ad.ret ?_;exact⟨.inr rfl, .inl ⟨[5],Jd [5] 129 89 (A8) a0,a0.length,by kernel_rfl,by kernel_rfl,by kernel_rfl,AV _ (fun _=>rfl) _,⟨rfl,rfl⟩⟩⟩
 ·cases h
def EP:CE TE Tryz.prog I0:=VO 71 [.k (.t_ 129)] 129 (fun x=>Bh x.1) (fun x r h=>IC (by kernel_rfl) (Ei (r:=r) h))
def BL (a0:List (Cv)):Option (List (Cv)):=if a0.length*80<=140737488355328/\a0.length<=maxLen then some a0 else none
theorem Gb {a0 r:List (Cv)} (h:BL a0=some r):BW Tryz.prog I0 72 [vL (Ce) a0] 132 6 (fun len cs=>len=r.length/\cs=r.flatMap (Ce)):=by
 refine BW.of (t:=2) (m:=8) BT (by kernel_rfl) Tryz.func72 rfl rfl Tryz.ntmps72 ?_;intro w0 av old gv;unfold BL at h;split at h
 ·rename_i hb;injection h with h;subst h;refine Rg [.a] (sl 8 [(0,vL (Ce) a0)] []) (aN) ?_;refine Ad.seq ?_;refine Ad.seq ?_;refine Ad.region ?_;refine Rp 1 [.a] (sl 8 [(0,vL (Ce) a0),(3,vL (Ce) a0)] []) (aN) ?_;refine Run.inl rfl rfl (DL.ahC (len:=a0.length) (cs:=a0.flatMap (Ce)) rfl (fun b hbn=>?_));refine Rw [] (sl 8 [(0,vL (Ce) a0),(3,vL (Ce) a0),(4,vB b)] []) (aN) ?_;refine Tn ?_;refine Ad.ifB b (by kernel_rfl) (fun hb1=>?_) (fun hb1=>?_)
  ·have h0:a0=[]:=length_eq_zero_iff.1 (hbn hb1);refine Rg [.a] (sl 8 [(2, .c (.j_ [2]))] [Jd [2] 132 6 (Ce) ([]:List (Cv))]) (aN) ?_;refine Ad.ret ?_;refine Tr ?_;exact⟨.inr rfl, .inl ⟨[2],Jd [2] 132 6 (Ce) ([]:List (Cv)),0,by kernel_rfl,by kernel_rfl,by kernel_rfl,by kernel_rfl,by rw [h0];exact⟨rfl,rfl⟩⟩⟩
  ·refine Ad.skip ?_;refine Tn ?_;have hr:app 80 ([]:List (Cv)) a0=some a0:=by unfold app;rw [if_pos ⟨by simpa using hb.1,by simpa using hb.2⟩];rfl
   refine Rg [.a, .a,(.e a0.length (a0.flatMap (Ce))), .a] (sl 8 [(2, .c (.j_ [5]))] [Jd [5] 132 6 (Ce) a0]) (aC (show (a0.flatMap (Ce)).length =a0.length*6 from BO (enc:=Ce) (n:=6) wi _)<|aC (rx hr (Ce))<|aC (Kf hr)<|aN) ?_;refine Ad.ret ?_;exact⟨.inr rfl, .inl ⟨[5],Jd [5] 132 6 (Ce) a0,a0.length,by kernel_rfl,by kernel_rfl,by kernel_rfl,AV _ (fun _=>rfl) _,⟨rfl,rfl⟩⟩⟩
 ·cases h
def G5:CE TE Tryz.prog I0:=VO 72 [.k (.t_ 132)] 132 (fun x=>BL x.1) (fun x r h=>IC (by kernel_rfl) (Gb (r:=r) h))
end Go.PL
