/- Functions of the program, as partial functions in Lean, with proofs. -/
import Derived.Test.YteginlijmbcopaaGreatDoorPlBdB
open List (length_eq_zero_iff)
namespace Go.PL
open Go Go.RowKit Go.Proofs
set_option maxRecDepth 100000
set_option linter.all false
set_option maxHeartbeats 4000000
attribute [local irreducible] Ae Cq Cl
def kF (a0:AA) (arG:Int):Option (Bool):=
 (some (if decide (arG<=400) then decide ((a0.i_.length:Int)<=8)else false)).bind fun b3=>
 some b3
def TP (a0:AA) (anE:Int) (akY:Int):Option ((Int×Int)⊕(Int)):=
 (if(decide (akY<(a0.i_.length:Int))) then
  (idx a0.i_ akY).bind fun e11=>
  some (.inl ((Aa (anE+(e11.length:Int))),(Aa (akY+1))))
 else
  some (.inr anE))
def Qn (a0:AA):Option (Bool):=
 jn (fun(v:Int)=>kF a0 v) (fun H_=>
 (iter (fun(v:Int×Int)=>TP a0 v.1 v.2) FU ((a0.aaG.length:Int),(0:Int))).bind (fun o0=>H_ o0))
def oC:Bb:=mC [] 6 Tryz.f6 (.s .n (.s .n (.j ⟨[1],[Bd 3],[[1]],[]⟩ (.s .n (.l ⟨[1,10,11],[Bd 3,Bd 12],[[1]],[]⟩ [(1,⟨[1],[Bd 3],[[1]],[]⟩)] .n)) .n))) [.s 26] [.k (.bool)] (fun x=>Qn x.1) Tryz.func6 (by kernel_rfl)
def br (a1:Int) (aiw:Int) (afK:List (List (Int))):Option (AA):=
 (k_ (aiw=((afK.length:Nat):Int))).bind fun _=>
 some (⟨([(⟨sd,false,(⟨0,0,(⟨0,0,0,0,0⟩:A5 (Int))⟩:Az),0,(⟨0,32,([]:List (List UInt8))⟩:Ja),0,0,0,([]:List (AE))⟩:AO)]:List (AO)),afK,a1,1⟩:AA)
def XT (a0:Int) (anZ:Int) (aaY:Int) (aaD:List (List (Int))):Option ((Int×Int×(List (List (Int))))⊕((Int×(List (List (Int)))))):=
 (if decide (anZ<a0) then
  (idx aaD (0:Int)).bind fun e15=>
  (idx aaD (0:Int)).bind fun e16=>
  (k_ (0<aaY)).bind fun u17=>
  (app 8 e16 ([(0:Int)]:List (Int))).bind fun l18=>
  (idx aaD (0:Int)).bind fun e19=>
  (idx aaD (0:Int)).bind fun e20=>
  (k_ (0<aaY)).bind fun u21=>
  (k_ ((0:Int)=(0:Int))).bind fun u22=>
  (some (aaD.set ((0:Int)).toNat l18)).bind fun l23=>
  (idx l23 (1:Int)).bind fun e24=>
  (idx l23 (1:Int)).bind fun e25=>
  (k_ (1<aaY)).bind fun u26=>
  (app 8 e25 ([(0:Int)]:List (Int))).bind fun l27=>
  (idx l23 (1:Int)).bind fun e28=>
  (idx l23 (1:Int)).bind fun e29=>
  (k_ (1<aaY)).bind fun u30=>
  (k_ ((1:Int)=(1:Int))).bind fun u31=>
  (some (l23.set ((1:Int)).toNat l27)).bind fun l32=>
  some (.inl ((Aa (anZ+1)),aaY,l32))
 else
  some (.inr (aaY,aaD)))
def Po (a0:Int) (a1:Int):Option (AA):=
 jn (fun(v:Int×(List (List (Int))))=>br a1 v.1 v.2) (fun jJ3=>
 (iter (fun(v:Int×Int×(List (List (Int))))=>XT a0 v.1 v.2.1 v.2.2) FU ((0:Int),((([([]:List (Int)),([]:List (Int))]:List (List (Int))).length :Nat):Int),([([]:List (Int)),([]:List (Int))]:List (List (Int))))).bind (fun o0=>jJ3 (o0.1,o0.2)))
def dv:Bb:=mX [] 20 Tryz.f20 (.s .n (.s (.r [] [] (.q 5 .sb .n)) (.j ⟨[4,5],[],[[4],[5],[9]],[([1000003,12], .deep 31)]⟩ (.s .n (.l ⟨[0,4,5],[Bd 6],[[4],[5],[9]],[([1000003,12], .deep 31)]⟩ [(1,⟨[4,5],[],[[4],[5],[9]],[([1000003,12], .deep 31)]⟩)] (.s .n (.s (.s (.r [] [] (.t (.q 5 .au (.q 9 .au .n)))) (.r [] [] (.t (.q 5 .au (.q 9 .au .n))))) .n)))) .n))) [[1,2,0,0]] [.k (.int .i64), .k (.int .u64)] [.s 26] (fun x=>Po x.1 x.2.1) Tryz.func20 (by kernel_rfl)
def Xs:Option (Bool):=
 some true
def Iy (a0:List UInt8) (ajp:Int):Option ((Int)⊕(Unit⊕Bool)):=
 (if(decide (ajp<((D6 a0).length :Int))) then
  (idx (D6 a0) ajp).bind fun e17=>
  (some (if decide (e17<97) then true else decide (122<e17))).bind fun b18=>
  (some (if decide (e17<48) then true else decide (57<e17))).bind fun b19=>
  (some (if b18 then b19 else false)).bind fun b20=>
  (some (if b20 then e17 != 45 else false)).bind fun b21=>
  (if b21 then
   some (.inr (.inr false))
  else
   some (.inl (Aa (ajp+1))))
 else
  some (.inr (.inl ())))
def Qo (a0:List UInt8):Option (Bool):=
 (some (if((a0.length:Int)==0) then true else decide (32<(a0.length:Int)))).bind fun b1=>
 (gd (b1==false) (IS a0 (0:Int))).bind fun c2=>
 (some (if b1 then true else decide (c2<97))).bind fun b3=>
 (gd (b3==false) (IS a0 (0:Int))).bind fun c4=>
 (some (if b3 then true else decide (122<c4))).bind fun b5=>
 (gd (b5==false) (IS a0 (Aa ((a0.length:Int) - (1:Int))))).bind fun c6=>
 (some (if b5 then true else c6==45)).bind fun b7=>
 (gd (b7==false) (JG a0 ia)).bind fun r8=>
 (if(if b7=true then true else r8) then
  some false
 else
  jn (fun(v:Unit)=>Xs) (fun ad_=>
  (k_ (a0.length<=140737488355328)).bind fun u11=>
  (iter (fun(v:Int)=>Iy a0 v) FU (0:Int)).bind (Sum.elim (fun o0=>ad_ ()) (fun o1=>some o1))))
def VK:Bb:=mC [oB] 145 Tryz.f145 (.s .n (.s .n (.j IT (.s (.r [] [] (.q 1 .by_ .n)) (.l ⟨[36,37],[Bd 38],[],[]⟩ [(1,IT),(0,⟨[],[ES 2],[],[]⟩)] .n)) .n))) [.k (.str)] [.k (.bool)] (fun x=>Qo x.1) Tryz.func145 (by kernel_rfl)
def bt (a0:Az):Option (Bool):=
 (some (if decide (0<=a0.Generic) then decide (a0.Generic<=99)else false)).bind fun b2=>
 (some (if b2 then decide (0<=a0.X)else false)).bind fun b3=>
 (some (if b3 then decide (a0.X<=2)else false)).bind fun b4=>
 some b4
def EB (a0:Az) (anj:Int):Option ((Int)⊕(Unit⊕Bool)):=
 (if decide (anj<5) then
  (idx a0.Color.l anj).bind fun e10=>
  (some (if decide (e10<0) then true else decide (9<e10))).bind fun b11=>
  (if b11 then
   some (.inr (.inr false))
  else
   some (.inl (Aa (anj+1))))
 else
  some (.inr (.inl ())))
def Qp (a0:Az):Option (Bool):=
 jn (fun(v:Unit)=>bt a0) (fun jJ1=>
 (iter (fun(v:Int)=>EB a0 v) FU (0:Int)).bind (Sum.elim (fun o0=>jJ1 ()) (fun o1=>some o1)))
def VL:Bb:=mC [] 146 Tryz.f146 (.s .n (.j ⟨[1],[],[[1]],[]⟩ (.s .n (.l ⟨[1,6],[Bd 7],[[1]],[]⟩ [(1,⟨[1],[],[[1]],[]⟩),(0,⟨[],[ES 2],[],[]⟩)] .n)) .n)) [.s 99] [.k (.bool)] (fun x=>Qp x.1) Tryz.func146 (by kernel_rfl)
def H5 (a0:Int):Option (Bool):=
 (some (if((Fn .i64 a0 (6:Int))==(0:Int)) then true else a0==2)).bind fun b1=>
 (some (if b1 then true else a0==4)).bind fun b2=>
 some b2
def XU:Bb:=mC [] 201 Tryz.f201 .n [.k (.int .i64)] [.k (.bool)] (fun x=>H5 x.1) Tryz.func201 (by kernel_rfl)
def KD:Option (Int):=
 some (0:Int)
def B8 (a0:List UInt8) (a1:Int) (ab8:Int):Option ((Int)⊕(Unit⊕Int)):=
 (if decide (ab8<a1) then
  (idx (⟨Qi,No⟩:A2 (List UInt8)).l ab8).bind fun e7=>
  (if e7 != a0 then
   some (.inl (Aa (ab8+1)))
  else
   (k_ (0<=ab8)).bind fun u9=>
   some (.inr (.inr (Aa ((1:Int)*2 ^ (min (ab8).toNat (IntKind.i64).bits))))))
 else
  some (.inr (.inl ())))
def Cy (a0:List UInt8) (a1:Int):Option (Int):=
 jn (fun(v:Unit)=>KD) (fun jJ1=>
 (iter (fun(v:Int)=>B8 a0 a1 v) FU (0:Int)).bind (Sum.elim (fun o0=>jJ1 ()) (fun o1=>some o1)))
def KY:Bb:=mC [] 247 Tryz.f247 (.s .n (.s .n (.j IT (.s .n (.l ⟨[0,2,8],[Bd 9],[],[]⟩ [(1,IT),(0,⟨[],[Bd 6],[],[]⟩)] (.s .n (.s .n (.s (.s .n (.s (.s (.r [] [] (.c 2 .n .n)) .n) .n)) .n))))) .n))) [.k (.str), .k (.int .i64), .f 248] [.k (.int .i64)] (fun x=>Cy x.1 x.2.1) Tryz.func247 (by kernel_rfl)
def KZ:Option (Int):=
 some (0:Int)
def Cc (a0:List UInt8) (a1:Int) (ab8:Int):Option ((Int)⊕(Unit⊕Int)):=
 (if decide (ab8<a1) then
  (idx (⟨GH,Ix,KB,Mt,Mu,Ph⟩:A6 (List UInt8)).l ab8).bind fun e7=>
  (if e7 != a0 then
   some (.inl (Aa (ab8+1)))
  else
   (k_ (0<=ab8)).bind fun u9=>
   some (.inr (.inr (Aa ((1:Int)*2 ^ (min (ab8).toNat (IntKind.i64).bits))))))
 else
  some (.inr (.inl ())))
def CN (a0:List UInt8) (a1:Int):Option (Int):=
 jn (fun(v:Unit)=>KZ) (fun jJ1=>
 (iter (fun(v:Int)=>Cc a0 a1 v) FU (0:Int)).bind (Sum.elim (fun o0=>jJ1 ()) (fun o1=>some o1)))
def LO:Bb:=mC [] 247 Tryz.f247 (.s .n (.s .n (.j IT (.s .n (.l ⟨[0,2,8],[Bd 9],[],[]⟩ [(1,IT),(0,⟨[],[Bd 6],[],[]⟩)] (.s .n (.s .n (.s (.s .n (.s (.s (.r [] [] (.c 2 .n .n)) .n) .n)) .n))))) .n))) [.k (.str), .k (.int .i64), .f 249] [.k (.int .i64)] (fun x=>CN x.1 x.2.1) Tryz.func247 (by kernel_rfl)
def FX (a0:Int):Option (Bool):=
 (some (if decide (0<=a0) then decide (a0<=131071)else false)).bind fun b1=>
 some b1
def TQ:Bb:=mC [] 148 Tryz.f148 .n [.k (.int .i64)] [.k (.bool)] (fun x=>FX x.1) Tryz.func148 (by kernel_rfl)
def Iz (a0:Int):Option (Bool):=
 (some (if decide (0<=a0) then decide (a0<=31)else false)).bind fun b1=>
 some b1
def bu:Bb:=mC [] 149 Tryz.f149 .n [.k (.int .i64)] [.k (.bool)] (fun x=>Iz x.1) Tryz.func149 (by kernel_rfl)
def sv (a0:Int) (r:Bool):Prop:=Cd Tryz.prog I0 149 [vI a0] (· =vB r)
theorem oD {a0:Int} {r:Bool} (h:Iz a0=some r):sv a0 r:=Ms (by kernel_rfl) (bu.ok (a0,()) r h)
def E3 (a0:AE) (a1:AE):Option (Bool):=
 (some (if a0.Filter==a1.Filter then(a0.aap.length:Int)==(a1.aap.length:Int)else false)).bind fun b1=>
 (some (if b1 then a0.acb==a1.acb else false)).bind fun b2=>
 (some (if b2 then a0.ahg==a1.ahg else false)).bind fun b3=>
 (some (if b3 then a0.aay==a1.aay else false)).bind fun b4=>
 (some (if b4 then a0.May==a1.May else false)).bind fun b5=>
 (some (if b5 then(a0.aai.length:Int)==(a1.aai.length:Int)else false)).bind fun b6=>
 (some (if b6 then(a0.n_.length:Int)==(a1.n_.length:Int)else false)).bind fun b7=>
 (some (if b7 then a0.Replace==a1.Replace else false)).bind fun b8=>
 some b8
def bw:Bb:=mC [] 203 Tryz.f203 .n [.s 121, .s 121] [.k (.bool)] (fun x=>E3 x.1 x.2.1) Tryz.func203 (by kernel_rfl)
def Ba (a0:Int) (a1:Int):Option (Bool):=
 (some (if decide (0<=a0) then decide (a0<=a1)else false)).bind fun b1=>
 some b1
def Mz:Bb:=mC [] 250 Tryz.f250 .n [.k (.int .i64), .k (.int .i64)] [.k (.bool)] (fun x=>Ba x.1 x.2.1) Tryz.func250 (by kernel_rfl)
def IU (a0:Int) (a1:Int) (a2:Int):Option (Bool):=
 (some (if decide (a1<=a0) then decide (a0<=a2)else false)).bind fun b1=>
 some b1
def zY:Bb:=mC [] 276 Tryz.f276 .n [.k (.int .i64), .k (.int .i64), .k (.int .i64)] [.k (.bool)] (fun x=>IU x.1 x.2.1 x.2.2.1) Tryz.func276 (by kernel_rfl)
def IA (aiW:AZ):Option (AZ):=
 some aiW
def GJ (a0:AZ) (H_:(AZ)->Option (AZ)) (ao7:Bool):Option (AZ):=
 (if ao7 then
  H_ (⟨a0.Kind,a0.N,a0.M,[],(⟨0,0,0,0,0,0,0,[],0,0,(⟨0,0⟩:Ac),(⟨0,0⟩:Ac),(⟨0,0⟩:Ac)⟩:Ag)⟩:AZ)
 else
  H_ (⟨a0.Kind,0,0,[],(⟨0,0,0,0,0,0,0,[],0,0,(⟨0,0⟩:Ac),(⟨0,0⟩:Ac),(⟨0,0⟩:Ac)⟩:Ag)⟩:AZ))
def IB (a0:AZ) (H_:(AZ)->Option (AZ)) (arf:Bool):Option (AZ):=
 (if arf then
  H_ (⟨a0.Kind,0,0,a0.Sub,(⟨0,0,0,0,0,0,0,[],0,0,(⟨0,0⟩:Ac),(⟨0,0⟩:Ac),(⟨0,0⟩:Ac)⟩:Ag)⟩:AZ)
 else if a0.Kind==11 then
  H_ (⟨a0.Kind,0,0,[],a0.Filter⟩:AZ)
 else
  jn (fun(v:Bool)=>GJ a0 H_ v) (fun aaR=>
  (if a0.Kind==12 then
   aaR (a0.Kind==12)
  else
   aaR (a0.Kind==13))))
def IC (a0:AZ) (H_:(AZ)->Option (AZ)) (ab8:Bool):Option (AZ):=
 (if ab8 then
  H_ (⟨a0.Kind,a0.N,0,[],(⟨0,0,0,0,0,0,0,[],0,0,(⟨0,0⟩:Ac),(⟨0,0⟩:Ac),(⟨0,0⟩:Ac)⟩:Ag)⟩:AZ)
 else
  jn (fun(v:Bool)=>IB a0 H_ v) (fun jJ7=>
  (if a0.Kind==4 then
   jJ7 (a0.Kind==4)
  else
   jJ7 (a0.Kind==5))))
def MA (a0:AZ):Option (AZ):=
 jn (fun(v:AZ)=>IA v) (fun H_=>
 jn (fun(v:Bool)=>IC a0 H_ v) (fun jJ4=>
 (if a0.Kind==2 then
  jJ4 (a0.Kind==2)
 else if a0.Kind==3 then
  jJ4 (a0.Kind==3)
 else if a0.Kind==6 then
  jJ4 (a0.Kind==6)
 else if a0.Kind==7 then
  jJ4 (a0.Kind==7)
 else if a0.Kind==8 then
  jJ4 (a0.Kind==8)
 else
  jJ4 (a0.Kind==9))))
def sw:Bb:=mC [] 277 Tryz.f277 (.s .n (.s .n (.j ⟨[2,3],[],[[2]],[([3], .box [.v (.s 148)])]⟩ (.s .n (.j ⟨[1,2,3,8],[ES 9],[[1],[2],[3]],[]⟩ .n (.i .n (.j ⟨[1,2,3,8],[ES 19],[[1],[2],[3]],[]⟩ .n (.i .n (.s .n (.i .n (.j ⟨[1,2,3],[ES 30],[[1],[2],[3]],[]⟩ .n (.i (.r [] [] (.t .n)) .n))))))))) .n))) [.s 148] [.s 148] (fun x=>MA x.1) Tryz.func277 (by kernel_rfl)
def oE (ayu:List (Int)):Option ((List (Int))):=
 some ayu
def kG (ahI:Int) (ahZ:List (Int)):Option ((Int×(List (Int)))⊕((List (Int)))):=
 some (.inl ((Aa (ahI+1)),ahZ))
def TR (a0:Int) (ahI:Int) (amB:List (Int)):Option ((Int×(List (Int)))⊕((List (Int)))):=
 (if decide (ahI<31) then
  jn (fun(v:(List (Int)))=>kG ahI v) (fun afB=>
  (k_ (0<=ahI)).bind fun u14=>
  (if((Fn .i64 (Int.fdiv a0 (2 ^ (min (ahI).toNat (IntKind.i64).bits))) (1:Int))==(1:Int)) then
   (app 8 amB ([ahI]:List (Int))).bind fun l16=>
   afB l16
  else
   afB amB))
 else
  some (.inr amB))
def FB (a0:Int):Option ((List (Int))):=
 (if decide (a0<0) then
  some ([]:List (Int))
 else
  jn (fun(v:(List (Int)))=>oE v) (fun jJ3=>
  (iter (fun(v:Int×(List (Int)))=>TR a0 v.1 v.2) FU ((0:Int),([]:List (Int)))).bind (fun o0=>jJ3 o0)))
def RX:Bb:=mC [] 300 Tryz.f300 (.s .n (.s .n (.s .n (.j ⟨[],[(3, .c (.c (.e_ [3])))],[],[([3], .row 3)]⟩ (.s .n (.l ⟨[0],[(3, .c (.c (.e_ [3]))),Bd 8],[],[([3], .row 3)]⟩ [(1,⟨[],[(3, .c (.c (.e_ [3])))],[],[([3], .row 3)]⟩)] (.s .n (.s .n (.j ⟨[0,8],[(3, .c (.c (.e_ [3])))],[],[([3], .row 3)]⟩ .n .n))))) .n)))) [.k (.int .i64)] [.k (.l_ 3)] (fun x=>FB x.1) Tryz.func300 (by kernel_rfl)
def VM:Option ((List UInt8)):=
 some ([]:List UInt8)
def VN (a0:List (List UInt8)) (afI:Int):Option ((Int)⊕(Unit⊕(List UInt8))):=
 (if(decide (afI<(a0.length:Int))) then
  (idx a0 afI).bind fun e7=>
  (if(e7 != ([]:List UInt8)) then
   some (.inr (.inr e7))
  else
   some (.inl (Aa (afI+1))))
 else
  some (.inr (.inl ())))
def BS (a0:List (List UInt8)):Option ((List UInt8)):=
 jn (fun(v:Unit)=>VM) (fun jJ1=>
 (iter (fun(v:Int)=>VN a0 v) FU (0:Int)).bind (Sum.elim (fun o0=>jJ1 ()) (fun o1=>some o1)))
def Oc:Bb:=mC [] 304 Tryz.f304 (.s .n (.s .n (.j ⟨[3],[],[],[]⟩ (.s .n (.l ⟨[3,6,7],[Bd 8],[],[]⟩ [(1,⟨[3],[],[],[]⟩),(0,⟨[],[Kt 2],[],[]⟩)] .n)) .n))) [.k (.l_ 9)] [.k (.str)] (fun x=>BS x.1) Tryz.func304 (by kernel_rfl)
def Gt (a0:List (List UInt8)) (a1:List UInt8):Option ((List UInt8)):=
 (QQ a0 a1).bind fun r1=>
 some r1
def Pp:Bb:=mC [kE] 254 Tryz.f254 .n [.k (.l_ 9), .k (.str)] [.k (.str)] (fun x=>Gt x.1 x.2.1) Tryz.func254 (by kernel_rfl)
def IV (a0:Int):Option ((List UInt8)):=
 (if a0==1 then
  some Pn
 else if a0==2 then
  some KC
 else if a0==3 then
  some HI
 else if a0==4 then
  some Nv
 else if a0==5 then
  some Nw
 else
  some ([]:List UInt8))
def TS:Bb:=mC [] 283 Tryz.f283 .n [.k (.int .i64)] [.k (.str)] (fun x=>IV x.1) Tryz.func283 (by kernel_rfl)
def Db (a0:Int):Option ((List UInt8)):=
 (hT a0).bind fun r1=>
 some r1
def NF:Bb:=mC [AcY] 263 Tryz.f263 .n [.k (.int .i64)] [.k (.str)] (fun x=>Db x.1) Tryz.func263 (by kernel_rfl)
def Dr (a1:Int) (ao5:Bool):Option (Bool):=
 (if ao5 then
  (some (if a1==8 then true else a1==4)).bind fun b13=>
  (some (if b13 then true else a1==3)).bind fun b14=>
  some b14
 else
  some false)
def CO (a0:Int) (a1:Int):Option (Bool):=
 (if a0==1 then
  (some (if a1==1 then true else a1==2)).bind fun b2=>
  (some (if b2 then true else a1==3)).bind fun b3=>
  (some (if b3 then true else a1==4)).bind fun b4=>
  some b4
 else if a0==2 then
  (some (if a1==5 then true else a1==6)).bind fun b6=>
  (some (if b6 then true else a1==7)).bind fun b7=>
  some b7
 else if a0==3 then
  (some (if a1==8 then true else a1==4)).bind fun b9=>
  some b9
 else
  jn (fun(v:Bool)=>Dr a1 v) (fun aaR=>
  (if a0==4 then
   aaR (a0==4)
  else if a0==5 then
   aaR (a0==5)
  else if a0==10 then
   aaR (a0==10)
  else
   aaR (a0==8))))
def bA:Bb:=mC [] 255 Tryz.f255 (.s .n (.s (.s .n (.s .n (.i .n (.s .n (.i .n (.s .n (.i .n (.j ⟨[1],[ES 42],[],[]⟩ .n .n)))))))) .n)) [.k (.int .i64), .k (.int .i64)] [.k (.bool)] (fun x=>CO x.1 x.2.1) Tryz.func255 (by kernel_rfl)
def GK (am4:Au):Option (Au):=
 some am4
def GM (a0:Au) (akC:Au) (jJ8:(Au)->Option (Au)):Option (Au):=
 jJ8 ({akC with Filter:=a0.Filter})
def FY (jJ8:(Au)->Option (Au)) (avR:Au):Option (Au):=
 jJ8 avR
def GN (a0:Au) (akC:Au):Option (Au):=
 jn (fun(v:Au)=>GK v) (fun jJ8=>
 jn (fun(v:Unit)=>GM a0 akC jJ8) (fun jJ9=>
 (if a0.On==1 then
  jn (fun(v:Au)=>FY jJ8 v) (fun agH=>
  (if a0.Who==0 then
   agH ({{akC with Who:=a0.Who}with Filter:=a0.Filter})
  else
   agH ({akC with Who:=a0.Who})))
 else if a0.On==2 then
  jJ9 ()
 else if a0.On==8 then
  jJ9 ()
 else
  jJ8 ({akC with Who:=a0.Who}))))
def GO (a0:Au) (am5:Au):Option (Au):=
 jn (fun(v:Au)=>GN a0 v) (fun jJ6=>
 (if a0.Do==5 then
  jJ6 ({am5 with AT:=a0.AT})
 else
  jJ6 am5))
def GP (a0:Au) (aiW:Au):Option (Au):=
 jn (fun(v:Au)=>GO a0 v) (fun jJ4=>
 (if a0.Do==7 then
  jJ4 ({aiW with r_:=a0.r_})
 else
  jJ4 aiW))
def EC (a0:Au):Option (Au):=
 jn (fun(v:Au)=>GP a0 v) (fun H_=>
 (some (if a0.Do==2 then true else a0.Do==4)).bind fun b18=>
 (some (if b18 then true else a0.Do==7)).bind fun b19=>
 (if b19 then
  H_ (⟨a0.On,0,(⟨0,0,0,0,0,0,0,[],0,0,(⟨0,0⟩:Ac),(⟨0,0⟩:Ac),(⟨0,0⟩:Ac)⟩:Ag),a0.Do,a0.N,0,0⟩:Au)
 else
  H_ (⟨a0.On,0,(⟨0,0,0,0,0,0,0,[],0,0,(⟨0,0⟩:Ac),(⟨0,0⟩:Ac),(⟨0,0⟩:Ac)⟩:Ag),a0.Do,0,0,0⟩:Au)))
def VO:Bb:=mC [] 256 Tryz.f256 (.s .n (.s .n (.j ⟨[1,2,3],[],[[1],[2]],[([3], .box [.v (.s 119)])]⟩ .n (.j ⟨[1,2,3],[],[[1],[2]],[([3], .box [.v (.s 119)])]⟩ .n (.j ⟨[1,2,3],[],[[1],[2]],[([3], .box [.v (.s 119)])]⟩ .n (.j ⟨[2,3],[],[[2]],[([3], .box [.v (.s 119)])]⟩ (.s .n (.s (.j ⟨[1,2,3],[],[[1],[2],[3]],[]⟩ (.s .n (.j ⟨[2,3],[],[[2]],[([3], .box [.v (.s 119)])]⟩ .n .n)) .n) .n)) .n)))))) [.s 119] [.s 119] (fun x=>EC x.1) Tryz.func256 (by kernel_rfl)
def E4 (a0:Int):Option ((List UInt8)):=
 (some (if decide (a0<0) then true else decide (3<=a0))).bind fun b1=>
 (if b1 then
  some ([]:List UInt8)
 else
  (k_ (0<=a0/\a0<((3:Nat):Int))).bind fun u3=>
  (k_ (a0.toNat<HE.length)).bind fun u4=>
  some (HE.getD a0.toNat []))
def KE:Bb:=mC [Agt] 257 Tryz.f257 (.s .n (.s .n (.s (.r [] [] (.q 1 .ga (.q 2 .gl .n))) .n))) [.k (.int .i64)] [.k (.str)] (fun x=>E4 x.1) Tryz.func257 (by kernel_rfl)
def Gu (a0:Int):Option ((List UInt8)):=
 (some (if decide (a0<0) then true else decide (27<=a0))).bind fun b1=>
 (if b1 then
  some ([]:List UInt8)
 else
  (idx (⟨([]:List UInt8),Nz,Lr,TC,TD,Ls,TF,TG,TH,Ql,YM,TI,NA,YN,TJ,Lt,TK,NB,FA,TL,TM,NC,ND,TN,YO,NE,Qm⟩:A27 (List UInt8)).l a0).bind fun e3=>
  (idx ((⟨([]:List UInt8),Nz,Lr,TC,TD,Ls,TF,TG,TH,Ql,YM,TI,NA,YN,TJ,Lt,TK,NB,FA,TL,TM,NC,ND,TN,YO,NE,Qm⟩:A27 (List UInt8)).l) a0).bind fun e4=>
  some e4)
def dw:Bb:=mC [] 259 Tryz.f259 .n [.k (.int .i64)] [.k (.str)] (fun x=>Gu x.1) Tryz.func259 (by kernel_rfl)
def TT (aiW:AL):Option (AL):=
 some aiW
def TU (H_:(AL)->Option (AL)) (am5:AL):Option (AL):=
 H_ ({am5 with ref:=true})
def TV (jJ4:(AL)->Option (AL)) (akC:AL):Option (AL):=
 jJ4 ({akC with aem:=true})
def QT (a0:Int) (H_:(AL)->Option (AL)) (jJ4:(AL)->Option (AL)) (apc:Bool):Option (AL):=
 (if apc then
  jJ4 (⟨false,false,false,false,false,false,false,false⟩:AL)
 else if a0==3 then
  H_ (⟨true,false,false,true,false,false,false,false⟩:AL)
 else if a0==12 then
  H_ (⟨true,true,false,false,true,false,false,false⟩:AL)
 else if a0==13 then
  H_ (⟨true,false,false,false,false,false,false,true⟩:AL)
 else if a0==14 then
  H_ (⟨false,false,false,false,false,false,true,false⟩:AL)
 else if a0==18 then
  H_ (⟨true,true,false,false,false,true,false,false⟩:AL)
 else if a0==20 then
  H_ (⟨false,true,false,false,false,false,false,false⟩:AL)
 else if a0==21 then
  H_ (⟨false,false,false,false,false,true,false,false⟩:AL)
 else
  H_ (⟨false,false,false,false,false,false,false,false⟩:AL))
def QU (a0:Int) (H_:(AL)->Option (AL)) (jJ4:(AL)->Option (AL)) (jJ6:(AL)->Option (AL)) (aq9:Bool):Option (AL):=
 (if aq9 then
  jJ6 (⟨false,false,false,false,false,false,false,false⟩:AL)
 else
  jn (fun(v:Bool)=>QT a0 H_ jJ4 v) (fun ade=>
  (if a0==2 then
   ade (a0==2)
  else if a0==8 then
   ade (a0==8)
  else if a0==9 then
   ade (a0==9)
  else if a0==15 then
   ade (a0==15)
  else if a0==16 then
   ade (a0==16)
  else if a0==17 then
   ade (a0==17)
  else
   ade (a0==25))))
def TW (a0:Int) (H_:(AL)->Option (AL)) (jJ4:(AL)->Option (AL)) (jJ6:(AL)->Option (AL)) (adv:Bool):Option (AL):=
 (if adv then
  jJ6 (⟨false,false,true,false,false,false,false,false⟩:AL)
 else
  jn (fun(v:Bool)=>QU a0 H_ jJ4 jJ6 v) (fun aaR=>
  (if a0==1 then
   aaR (a0==1)
  else if a0==4 then
   aaR (a0==4)
  else if a0==5 then
   aaR (a0==5)
  else if a0==6 then
   aaR (a0==6)
  else if a0==7 then
   aaR (a0==7)
  else if a0==19 then
   aaR (a0==19)
  else if a0==22 then
   aaR (a0==22)
  else
   aaR (a0==26))))
def JI (a0:Int):Option (AL):=
 jn (fun(v:AL)=>TT v) (fun H_=>
 jn (fun(v:AL)=>TU H_ v) (fun jJ4=>
 jn (fun(v:AL)=>TV jJ4 v) (fun jJ6=>
 jn (fun(v:Bool)=>TW a0 H_ jJ4 jJ6 v) (fun jJ8=>
 (if a0==10 then
  jJ8 (a0==10)
 else
  jJ8 (a0==11))))))
def oF:Bb:=mC [] 261 Tryz.f261 (.s .n (.s .n (.j ⟨[2,3],[],[[2]],[([3], .box [.v (.s 253)])]⟩ (.s .n (.s (.s (.s (.s (.s (.s (.s (.j ⟨[2,3],[],[[2]],[([3], .box [.v (.s 253)])]⟩ (.j ⟨[2,3],[],[[2]],[([3], .box [.v (.s 253)])]⟩ (.s (.s (.s (.j ⟨[2,3,4],[ES 5],[[2],[3]],[]⟩ .n .n) (.s (.j ⟨[2,3,4],[ES 8],[[2],[3]],[]⟩ .n .n) (.s (.j ⟨[2,3,4],[ES 17],[[2],[3]],[]⟩ .n .n) .n))) .n) .n) .n) .n) .n) .n) .n) .n) .n) .n) .n)) .n))) [.k (.int .i64)] [.s 253] (fun x=>JI x.1) Tryz.func261 (by kernel_rfl)
def KF (asE:AW):Option (AW):=
 some ({asE with Kind:=(0:Int)})
def KG (H_:(AW)->Option (AW)) (aAO:AW):Option (AW):=
 H_ ({aAO with N:=(0:Int)})
def Lu (a0:AW):Option (AW):=
 jn (fun(v:AW)=>KF v) (fun H_=>
 jn (fun(v:AW)=>KG H_ v) (fun jJ4=>
 (if a0.Kind==2 then
  jJ4 ({a0 with Filter:=(⟨0,0,0,0,0,0,0,[],0,0,(⟨0,0⟩:Ac),(⟨0,0⟩:Ac),(⟨0,0⟩:Ac)⟩:Ag)})
 else if a0.Kind==0 then
  jJ4 a0
 else if a0.Kind==4 then
  H_ ({a0 with r_:=(0:Int)})
 else
  H_ a0)))
def dx:Bb:=mC [] 305 Tryz.f305 (.s .n (.j ⟨[1,2],[],[[2]],[([1], .box [.v (.s 178)])]⟩ (.s .n (.s (.j ⟨[1,2],[],[[2]],[([1], .box [.v (.s 178)])]⟩ .n .n) .n)) .n)) [.s 178] [.s 178] (fun x=>Lu x.1) Tryz.func305 (by kernel_rfl)
def MB (a0:A6 (Int)):Option (Az):=
 (idx a0.l (0:Int)).bind fun e1=>
 some (⟨e1,0,(⟨a0.x1,a0.x2,a0.x3,a0.x4,a0.x5⟩:A5 (Int))⟩:Az)
def oG (a0:A6 (Int)) (r:Az):Prop:=Cd Tryz.prog I0 306 [vA (zM (eI .i64)) a0] (· =vA Fz r)
theorem kH {a0:A6 (Int)} {r:Az} (h:MB a0=some r):oG a0 r:=by refine Cd.bo Ca Tryz.func306 rfl Tryz.ntmps306 [.cell 2 99] fun _ _ _ _=>?_;unfold MB at h;refine Rg [.a,.a] (sl 12 [(1,vP [1] (0)),(2,vP [2] (0))] [bx [2] [Ap 0,Ap 0,Ap (((⟨0,0,0,0,0⟩:A5 (Int))).x0),Ap (((⟨0,0,0,0,0⟩:A5 (Int))).x1),Ap (((⟨0,0,0,0,0⟩:A5 (Int))).x2),Ap (((⟨0,0,0,0,0⟩:A5 (Int))).x3),Ap (((⟨0,0,0,0,0⟩:A5 (Int))).x4)],bx [1] (zM (eI .i64) a0)]) (aN) ?_;obtain⟨e1,i0,h⟩:=bS h;exact Gg [.a,(.v (vI e1)),.a,.a,.a] (uo [] [(3,vP [3] (0))] [.e (bx [3] [Ap e1,Ap 0,Ap (((⟨0,0,0,0,0⟩:A5 (Int))).x0),Ap (((⟨0,0,0,0,0⟩:A5 (Int))).x1),Ap (((⟨0,0,0,0,0⟩:A5 (Int))).x2),Ap (((⟨0,0,0,0,0⟩:A5 (Int))).x3),Ap (((⟨0,0,0,0,0⟩:A5 (Int))).x4)]),.k 0,.k 1]) (aC (N7 i0)<|aC (ald i0 (AeU .i64) (zM (eI .i64) a0) 0 6 0 1 false (vI e1))<|aC (Eq.refl (vI e1))<|aC (And.intro (show True/\True from⟨trivial,trivial⟩) AhU)<|aN)<|hS<|Ae.axU [0,1,4,5,7,15,3] 15 [.a,.a,.a,(.e 0 [Ap e1,Ap 0,Ap (((⟨a0.x1,a0.x2,a0.x3,a0.x4,a0.x5⟩:A5 (Int))).x0),Ap (((⟨a0.x1,a0.x2,a0.x3,a0.x4,a0.x5⟩:A5 (Int))).x1),Ap (((⟨a0.x1,a0.x2,a0.x3,a0.x4,a0.x5⟩:A5 (Int))).x2),Ap (((⟨a0.x1,a0.x2,a0.x3,a0.x4,a0.x5⟩:A5 (Int))).x3),Ap (((⟨a0.x1,a0.x2,a0.x3,a0.x4,a0.x5⟩:A5 (Int))).x4)])] [[3],[2],[1]] (fun n=>⟨[.undef,vP [1] (0),vP [2] (0),vP [3] (0),.undef,.undef,.undef,cond (Nat.testBit n 0) (vP [3] (2)) (.undef),cond (Nat.testBit n 1) (.c (.bsl [3] 2 5)) (.undef),cond (Nat.testBit n 2) (.c (.bsl [1] 1 5)) (.undef),cond (Nat.testBit n 3) (vI 5) (.undef),.undef],List.filterMap id [cond (Nat.testBit n 3) (some (bx [3] [Ap e1,Ap 0,Ap (((⟨a0.x1,a0.x2,a0.x3,a0.x4,a0.x5⟩:A5 (Int))).x0),Ap (((⟨a0.x1,a0.x2,a0.x3,a0.x4,a0.x5⟩:A5 (Int))).x1),Ap (((⟨a0.x1,a0.x2,a0.x3,a0.x4,a0.x5⟩:A5 (Int))).x2),Ap (((⟨a0.x1,a0.x2,a0.x3,a0.x4,a0.x5⟩:A5 (Int))).x3),Ap (((⟨a0.x1,a0.x2,a0.x3,a0.x4,a0.x5⟩:A5 (Int))).x4)])) (some (bx [3] [Ap e1,Ap 0,Ap (((⟨0,0,0,0,0⟩:A5 (Int))).x0),Ap (((⟨0,0,0,0,0⟩:A5 (Int))).x1),Ap (((⟨0,0,0,0,0⟩:A5 (Int))).x2),Ap (((⟨0,0,0,0,0⟩:A5 (Int))).x3),Ap (((⟨0,0,0,0,0⟩:A5 (Int))).x4)])),some (bx [2] [Ap 0,Ap 0,Ap (((⟨0,0,0,0,0⟩:A5 (Int))).x0),Ap (((⟨0,0,0,0,0⟩:A5 (Int))).x1),Ap (((⟨0,0,0,0,0⟩:A5 (Int))).x2),Ap (((⟨0,0,0,0,0⟩:A5 (Int))).x3),Ap (((⟨0,0,0,0,0⟩:A5 (Int))).x4)]),some (bx [1] (zM (eI .i64) a0))],[],[]⟩) [[],[0<=(0:Int)/\(0:Int)<((5:Nat):Int)/\(0:Int)<=((5:Nat):Int)/\((5:Nat):Int)<=((5:Nat):Int)],[0<=(1:Int)/\(1:Int)<((6:Nat):Int)/\(1:Int)<=((6:Nat):Int)/\((6:Nat):Int)<=((6:Nat):Int)],[[Ap e1,Ap 0,Ap (((⟨0,0,0,0,0⟩:A5 (Int))).x0),Ap (((⟨0,0,0,0,0⟩:A5 (Int))).x1),Ap (((⟨0,0,0,0,0⟩:A5 (Int))).x2),Ap (((⟨0,0,0,0,0⟩:A5 (Int))).x3),Ap (((⟨0,0,0,0,0⟩:A5 (Int))).x4)].take 2++((zM (eI .i64) a0).drop 1).take 5++[Ap e1,Ap 0,Ap (((⟨0,0,0,0,0⟩:A5 (Int))).x0),Ap (((⟨0,0,0,0,0⟩:A5 (Int))).x1),Ap (((⟨0,0,0,0,0⟩:A5 (Int))).x2),Ap (((⟨0,0,0,0,0⟩:A5 (Int))).x3),Ap (((⟨0,0,0,0,0⟩:A5 (Int))).x4)].drop (2+(((zM (eI .i64) a0).drop 1).take 5).length)=[Ap e1,Ap 0,Ap (((⟨a0.x1,a0.x2,a0.x3,a0.x4,a0.x5⟩:A5 (Int))).x0),Ap (((⟨a0.x1,a0.x2,a0.x3,a0.x4,a0.x5⟩:A5 (Int))).x1),Ap (((⟨a0.x1,a0.x2,a0.x3,a0.x4,a0.x5⟩:A5 (Int))).x2),Ap (((⟨a0.x1,a0.x2,a0.x3,a0.x4,a0.x5⟩:A5 (Int))).x3),Ap (((⟨a0.x1,a0.x2,a0.x3,a0.x4,a0.x5⟩:A5 (Int))).x4)],((none:Option (TypeId×Nat×Nat))=none)/\True]] bc (by kernel_rfl) (by kernel_rfl) (by decide) (Cp.t (by kernel_rfl)) (by kernel_rfl) ⟨trivial,⟨(by decide),trivial⟩,⟨(by decide),trivial⟩,⟨(by kernel_rfl),⟨rfl,trivial⟩,trivial⟩,trivial⟩<|Tn<|Gs (uo [1,7,8,9,10] [] [.k 0,.k 1])<|Gg [.a,.a] (uo [3] [] [.e (bx [2] [Ap e1,Ap 0,Ap (((⟨a0.x1,a0.x2,a0.x3,a0.x4,a0.x5⟩:A5 (Int))).x0),Ap (((⟨a0.x1,a0.x2,a0.x3,a0.x4,a0.x5⟩:A5 (Int))).x1),Ap (((⟨a0.x1,a0.x2,a0.x3,a0.x4,a0.x5⟩:A5 (Int))).x2),Ap (((⟨a0.x1,a0.x2,a0.x3,a0.x4,a0.x5⟩:A5 (Int))).x3),Ap (((⟨a0.x1,a0.x2,a0.x3,a0.x4,a0.x5⟩:A5 (Int))).x4)])]) (aN)<|hR<|bE (.agg [Ap e1,Ap 0,Ap (((⟨a0.x1,a0.x2,a0.x3,a0.x4,a0.x5⟩:A5 (Int))).x0),Ap (((⟨a0.x1,a0.x2,a0.x3,a0.x4,a0.x5⟩:A5 (Int))).x1),Ap (((⟨a0.x1,a0.x2,a0.x3,a0.x4,a0.x5⟩:A5 (Int))).x2),Ap (((⟨a0.x1,a0.x2,a0.x3,a0.x4,a0.x5⟩:A5 (Int))).x3),Ap (((⟨a0.x1,a0.x2,a0.x3,a0.x4,a0.x5⟩:A5 (Int))).x4)]) (.agg (Fz (⟨e1,0,(⟨a0.x1,a0.x2,a0.x3,a0.x4,a0.x5⟩:A5 (Int))⟩:Az))) (congrArg (vA Fz) (sI h))def akK:CE TE Tryz.prog I0:=⟨306,[.s 59],[.s 99],fun x=>MB x.1,fun x r h=>Ms (by kernel_rfl) (kH (r:=r) h),[],fun h=>absurd rfl h,none,(fun _ h=>nomatch h),none,(fun _ _ h=>nomatch h)⟩
def FJ (anh:Bool):Option (Bool×Bool):=
 some (anh,true)
def FK (H_:(Bool)->Option (Bool×Bool)) (atC:Bool):Option (Bool×Bool):=
 (if atC then
  H_ false
 else
  some (true,false))
def DL (a0:Int):Option (Bool×Bool):=
 jn (fun(v:Bool)=>FJ v) (fun H_=>
 (if a0==9 then
  H_ true
 else
  jn (fun(v:Bool)=>FK H_ v) (fun jJ5=>
  (if a0==1 then
   jJ5 (a0==1)
  else if a0==2 then
   jJ5 (a0==2)
  else if a0==3 then
   jJ5 (a0==3)
  else if a0==4 then
   jJ5 (a0==4)
  else if a0==5 then
   jJ5 (a0==5)
  else if a0==6 then
   jJ5 (a0==6)
  else if a0==7 then
   jJ5 (a0==7)
  else
   jJ5 (a0==14)))))
def bB:Bb:=mC [] 264 Tryz.f264 (.s .n (.s .n (.s (.s .n (.j ⟨[],[ES 4],[],[]⟩ (.s (.s (.s .n (.j ⟨[4],[ES 8],[],[]⟩ .n .n)) .n) .n) .n)) .n))) [.k (.int .i64)] [.k (.bool), .k (.bool)] (fun x=>DL x.1) Tryz.func264 (by kernel_rfl)
def DP (a0:Int):Option ((List UInt8)):=
 (if a0==0 then
  some YJ
 else if a0==1 then
  some uE
 else if a0==2 then
  some QS
 else
  some ([]:List UInt8))
def TX:Bb:=mC [] 265 Tryz.f265 .n [.k (.int .i64)] [.k (.str)] (fun x=>DP x.1) Tryz.func265 (by kernel_rfl)
def RY (a0:AO):Option (Bool):=
 some ((Fn .i64 a0.adu.Types (6:Int)) != (0:Int))
def kI:Bb:=mC [] 151 Tryz.f151 .n [.s 102] [.k (.bool)] (fun x=>RY x.1) Tryz.func151 (by kernel_rfl)
def LP (a0:AO):Option (Bool):=
 (some (if a0.Token then true else(Fn .i64 a0.adu.Types (32:Int)) != (0:Int))).bind fun b1=>
 some b1
def XV:Bb:=mC [] 152 Tryz.f152 .n [.s 102] [.k (.bool)] (fun x=>LP x.1) Tryz.func152 (by kernel_rfl)
def Od (adP:Int):Option (Int):=
 some adP
def Oe (H_:(Int)->Option (Int)):Option (Int):=
 H_ (-1:Int)
def DQ (a0:List (AO)) (a1:List UInt8) (agk:Int):Option ((Int)⊕(Unit⊕Int)):=
 (if(decide (agk<(a0.length:Int))) then
  (idx a0 agk).bind fun e9=>
  (if e9.Name==a1 then
   some (.inr (.inr agk))
  else
   some (.inl (Aa (agk+1))))
 else
  some (.inr (.inl ())))
def Jo (a0:List (AO)) (a1:List UInt8):Option (Int):=
 jn (fun(v:Int)=>Od v) (fun H_=>
 jn (fun(v:Unit)=>Oe H_) (fun jJ3=>
 (iter (fun(v:Int)=>DQ a0 a1 v) FU (0:Int)).bind (Sum.elim (fun o0=>jJ3 ()) (fun o1=>H_ o1))))
def bC:Bb:=mC [] 99 Tryz.f99 (.s .n (.s (.r [] [] (.j 2 ⟨[],[Bd 7],[],[]⟩ (.s .n (.j ⟨[],[],[[3]],[]⟩ (.s .n (.l ⟨[0,1,7],[Bd 8],[[3]],[]⟩ [(1,⟨[],[],[[3]],[]⟩),(0,⟨[],[Bd 4],[[3]],[]⟩)] (.s .n (.s .n (.s (.s .n (.s (.r [] [] (.c 5 .n .n)) .n)) .n))))) .n)) .n)) .n)) [.k (.l_ 102), .k (.str)] [.k (.int .i64)] (fun x=>Jo x.1 x.2.1) Tryz.func99 (by kernel_rfl)
def MC:Option (Bool):=
 some false
def MD (ahL:Int):Option ((Int)⊕(Unit⊕Bool)):=
 some (.inl (Aa (ahL+1)))
def Eg (agq:Int) (e14:Av) (ap6:Int):Option ((Int)⊕(Unit⊕Bool)):=
 (some (if e14.Op==12 then !(decide (0<=ap6))else false)).bind fun b17=>
 (if b17 then
  some (.inr (.inr true))
 else
  some (.inl (Aa (agq+1))))
def Lv (aeT:(Int)->Option ((Int)⊕(Unit⊕Bool))):Option ((Int)⊕(Unit⊕Bool)):=
 aeT (-1:Int)
def Cz (a0:List (AO)) (e14:Av) (ahE:Int):Option ((Int)⊕(Unit⊕Int)):=
 (if(decide (ahE<(a0.length:Int))) then
  (idx a0 ahE).bind fun e25=>
  (some (if e25.Name==e14.ad1 then e25.Token else false)).bind fun b26=>
  (if b26 then
   some (.inr (.inr ahE))
  else
   some (.inl (Aa (ahE+1))))
 else
  some (.inr (.inl ())))
def Dc (a0:List (AO)) (e8:AE) (agq:Int):Option ((Int)⊕(Unit⊕Bool)):=
 (if(decide (agq<(e8.n_.length:Int))) then
  (idx e8.n_ agq).bind fun e14=>
  jn (fun(v:Int)=>Eg agq e14 v) (fun aeT=>
  jn (fun(v:Unit)=>Lv aeT) (fun aeS=>
  (iter (fun(v:Int)=>Cz a0 e14 v) FU (0:Int)).bind (Sum.elim (fun o0=>aeS ()) (fun o1=>aeT o1))))
 else
  some (.inr (.inl ())))
def Ds (a0:List (AO)) (a1:AO) (ahL:Int):Option ((Int)⊕(Unit⊕Bool)):=
 (if(decide (ahL<(a1.j_.length:Int))) then
  jn (fun(v:Unit)=>MD ahL) (fun jJ7=>
  (idx a1.j_ ahL).bind fun e8=>
  (iter (fun(v:Int)=>Dc a0 e8 v) FU (0:Int)).bind (Sum.elim (fun o0=>jJ7 ()) (fun o1=>some (.inr (.inr o1)))))
 else
  some (.inr (.inl ())))
def H6 (a0:List (AO)) (a1:AO):Option (Bool):=
 jn (fun(v:Unit)=>MC) (fun jJ1=>
 (iter (fun(v:Int)=>Ds a0 a1 v) FU (0:Int)).bind (Sum.elim (fun o0=>jJ1 ()) (fun o1=>some o1)))
def XW:Bb:=mC [] 100 Tryz.f100 (.s .n (.j IT (.s .n (.l ⟨[0,11,12],[Bd 13],[],[]⟩ [(1,IT),(0,⟨[],[ES 4],[],[]⟩)] (.s .n (.s .n (.j ⟨[0,11,12,13],[],[],[]⟩ (.s .n (.s .n (.l ⟨[0,11,12,13,18,19],[Bd 20],[],[]⟩ [(3,⟨[0,11,12,13],[],[],[]⟩),(0,⟨[],[ES 4],[],[]⟩)] (.s .n (.s .n (.s (.s .n (.s (.r [] [] (.c 2 (.s .n (.s (.r [] [] (.j 2 ⟨[],[Bd 7],[[8]],[]⟩ (.s .n (.j ⟨[],[],[[8]],[]⟩ (.s .n (.l ⟨[0,1,7],[Bd 8],[[8]],[]⟩ [(1,⟨[],[],[[8]],[]⟩),(0,⟨[],[Bd 4],[[8]],[]⟩)] (.s .n (.s .n (.s (.s .n (.s (.r [] [] (.c 5 .n .n)) .n)) .n))))) .n)) .n)) .n)) .n)) .n)) .n)))))) .n))))) .n)) [.k (.l_ 102), .s 102] [.k (.bool)] (fun x=>H6 x.1 x.2.1) Tryz.func100 (by kernel_rfl)
def dy (adD:Int) (aco:List (Al)) (aou:Int) (alP:Int) (aov:Int) (alO:Bool) (aiR:Int) (aks:Int) (aku:Int) (aik:Int) (am0:Int) (am2:Int) (akn:Int):Option (Ai):=
 (k_ (adD=((aco.length:Nat):Int))).bind fun _=>
 some (⟨aco,([]:List (Am)),([]:List (Int)),([]:List (Int)),([]:List (AK)),([]:List (Ax)),([]:List (Bn)),aou,alP,aov,alO,aiR,aks,aku,aik,am0,([]:List (Int)),am2,akn⟩:Ai)
def kJ (a0:Int) (a1:Int) (a2:Int) (adD:Int) (aco:List (Al)):Option (Ai):=
 jn (fun(v:Int×Int×Int×Bool×Int×Int×Int×Int×Int×Int×Int)=>dy adD aco v.1 v.2.1 v.2.2.1 v.2.2.2.1 v.2.2.2.2.1 v.2.2.2.2.2.1 v.2.2.2.2.2.2.1 v.2.2.2.2.2.2.2.1 v.2.2.2.2.2.2.2.2.1 v.2.2.2.2.2.2.2.2.2.1 v.2.2.2.2.2.2.2.2.2.2) (fun aix=>
 (some (if decide (0<a1) then decide (a1<(if 4<(if a0<2 then(2:Int)else a0)then(4:Int)else(if a0<2 then(2:Int)else a0)))else false)).bind fun b19=>
 (if b19 then
  aix ((0:Int),a1,(0:Int),false,a1,(0:Int),(1:Int),(1:Int),a2,(0:Int),(-1:Int))
 else
  aix ((0:Int),(0:Int),(0:Int),false,(0:Int),(0:Int),(1:Int),(1:Int),a2,(0:Int),(-1:Int))))
def dz (l2:List (Al)) (agp:Int) (aeL:Int) (abP:List (Al)):Option ((Int×Int×(List (Al)))⊕((Int×(List (Al))))):=
 (if(decide (agp<(l2.length:Int))) then
  (idx abP agp).bind fun e32=>
  (idx abP agp).bind fun e33=>
  (some (abP.set (agp).toNat ({e33 with adL:=(20:Int)}))).bind fun l34=>
  some (.inl ((Aa (agp+1)),aeL,l34))
 else
  some (.inr (aeL,abP)))
def VP (a0:Int) (a1:Int) (a2:Int):Option (Ai):=
 (k_ (0<=(if 4<(if a0<2 then(2:Int)else a0)then(4:Int)else(if a0<2 then(2:Int)else a0))/\(if 4<(if a0<2 then(2:Int)else a0)then(4:Int)else(if a0<2 then(2:Int)else a0))<=(if 4<(if a0<2 then(2:Int)else a0)then(4:Int)else(if a0<2 then(2:Int)else a0))/\(if 4<(if a0<2 then(2:Int)else a0)then(4:Int)else(if a0<2 then(2:Int)else a0))*152<=140737488355328/\(if 4<(if a0<2 then(2:Int)else a0)then(4:Int)else(if a0<2 then(2:Int)else a0))<=maxLen)).bind fun u1=>
 (some (List.replicate ((if 4<(if a0<2 then(2:Int)else a0)then(4:Int)else(if a0<2 then(2:Int)else a0))).toNat (⟨0,0,0,(⟨0,0,0,0,0,0⟩:A6 (Int)),false,false,([]:List (Int)),([]:List (Int)),([]:List (Int))⟩:Al))).bind fun l2=>
 (k_ (0<l2.length)).bind fun u3=>
 jn (fun(v:Int×(List (Al)))=>kJ a0 a1 a2 v.1 v.2) (fun jJ6=>
 (iter (fun(v:Int×Int×(List (Al)))=>dz l2 v.1 v.2.1 v.2.2) FU ((0:Int),((l2.length:Nat):Int),l2)).bind (fun o0=>jJ6 (o0.1,o0.2)))
def oH:Bb:=mX [] 22 Tryz.f22 (.s .n (.s .n (.s (.r [] [([8],1,[1001,8],70)] (.q 1 .mk .n)) (.j ⟨[1,6,7,8],[],[[6],[8],[1001,8]],[([1000003,14], .deep 61)]⟩ (.s .n (.l ⟨[1,6,7,8,19],[Bd 20],[[6],[8],[1001,8]],[([1000003,14], .deep 61)]⟩ [(1,⟨[1,6,7,8],[],[[6],[8],[1001,8]],[([1000003,14], .deep 61)]⟩)] (.s .n (.s .n (.s (.s .n (.r [] [] (.q 5 .au .n))) .n))))) (.j ⟨[6,8],[],[[6],[1001,8],[1000003,14]],[([8], .box [.c (.e_ [1000003,14]), .c (.e_ [1001,8]), .c (.s_), .c (.s_), .c (.s_), .c (.s_), .c (.s_),AF,AF,AF,Lk,AF,AF,AF,AF, .v (.k (.int .u64)), .c (.s_),AF,AF])]⟩ .n .n))))) [[2,1,0,0,0,0,0,0,0,0,0,0,0,0,0,0,0,0,0]] [.k (.int .i64), .k (.int .i64), .k (.int .u64)] [.s 36] (fun x=>VP x.1 x.2.1 x.2.2.1) Tryz.func22 (by kernel_rfl)
def Ay (a0:List (Int)):Option (List (Int)):=if a0.length*8<=140737488355328/\a0.length<=maxLen then some a0 else none
theorem LR {a0 r:List (Int)} (h:Ay a0=some r):B1 Tryz.prog I0 55 [vL (eI .i64) a0] 3 1 (fun len cs=>len=r.length/\cs=r.flatMap (eI .i64)):=by
 refine B1.of (t:=2) (m:=8) Ca (by kernel_rfl) Tryz.func55 rfl rfl Tryz.ntmps55 ?_;intro w0 av old gv;unfold Ay at h;split at h
 ·rename_i hb;injection h with h;subst h;refine Rg [.a] (sl 8 [(0,vL (eI .i64) a0)] []) (aN) ?_;refine Ae.seq ?_;refine Ae.seq ?_;refine Ae.region ?_;refine Rp 1 [.a] (sl 8 [(0,vL (eI .i64) a0),(3,vL (eI .i64) a0)] []) (aN) ?_;refine Run.inl rfl rfl (DJ.aiv (len:=a0.length) (cs:=a0.flatMap (eI .i64)) rfl (fun b hbn=>?_));refine Rw [] (sl 8 [(0,vL (eI .i64) a0),(3,vL (eI .i64) a0),(4,vB b)] []) (aN) ?_;refine Tn ?_;refine Ae.ifB b (by kernel_rfl) (fun hb1=>?_) (fun hb1=>?_)
  ·have h0:a0=[]:=length_eq_zero_iff.1 (hbn hb1);refine Rg [.a] (sl 8 [(2, .c (.e_ [2]))] [Jh [2] 3 1 (eI .i64) ([]:List (Int))]) (aN) ?_;refine Ae.ret ?_;refine Tr ?_;exact⟨.inr rfl, .inl ⟨[2],Jh [2] 3 1 (eI .i64) ([]:List (Int)),0,by kernel_rfl,by kernel_rfl,by kernel_rfl,by kernel_rfl,by rw [h0];exact⟨rfl,rfl⟩⟩⟩
  ·refine Ae.skip ?_;refine Tn ?_;have hr:app 8 ([]:List (Int)) a0=some a0:=by unfold app;rw [if_pos ⟨by simpa using hb.1,by simpa using hb.2⟩];rfl
   refine Rg [.a, .a,(.e a0.length (a0.flatMap (eI .i64))), .a] (sl 8 [(2, .c (.e_ [5]))] [Jh [5] 3 1 (eI .i64) a0]) (aC (show (a0.flatMap (eI .i64)).length =a0.length*1 from BQ (enc:=eI .i64) (n:=1) (AeU .i64) _)<|aC (xo hr (eI .i64))<|aC (Lc hr)<|aN) ?_;refine Ae.ret ?_;exact⟨.inr rfl, .inl ⟨[5],Jh [5] 3 1 (eI .i64) a0,a0.length,by kernel_rfl,by kernel_rfl,by kernel_rfl,AV _ (fun _=>rfl) _,⟨rfl,rfl⟩⟩⟩
 ·cases h
def BH:CE TE Tryz.prog I0:=a7 55 [.k (.l_ 3)] 3 (fun x=>Ay x.1) (fun x r h=>Ms (by kernel_rfl) (LR (r:=r) h))
def VQ (a0:Int):Option (Int×Int):=
 some (LH .u64 (IntKind.u64.wrap ((LH .u64 (IntKind.u64.wrap ((LH .u64 (IntKind.u64.wrap (a0+11400714819323198485)) (Int.fdiv (IntKind.u64.wrap (a0+11400714819323198485)) (2 ^ (min ((30:Int)).toNat (IntKind.u64).bits))))*(13787848793156543929:Int))) (Int.fdiv (IntKind.u64.wrap ((LH .u64 (IntKind.u64.wrap (a0+11400714819323198485)) (Int.fdiv (IntKind.u64.wrap (a0+11400714819323198485)) (2 ^ (min ((30:Int)).toNat (IntKind.u64).bits))))*(13787848793156543929:Int))) (2 ^ (min ((27:Int)).toNat (IntKind.u64).bits))))*(10723151780598845931:Int))) (Int.fdiv (IntKind.u64.wrap ((LH .u64 (IntKind.u64.wrap ((LH .u64 (IntKind.u64.wrap (a0+11400714819323198485)) (Int.fdiv (IntKind.u64.wrap (a0+11400714819323198485)) (2 ^ (min ((30:Int)).toNat (IntKind.u64).bits))))*(13787848793156543929:Int))) (Int.fdiv (IntKind.u64.wrap ((LH .u64 (IntKind.u64.wrap (a0+11400714819323198485)) (Int.fdiv (IntKind.u64.wrap (a0+11400714819323198485)) (2 ^ (min ((30:Int)).toNat (IntKind.u64).bits))))*(13787848793156543929:Int))) (2 ^ (min ((27:Int)).toNat (IntKind.u64).bits))))*(10723151780598845931:Int))) (2 ^ (min ((31:Int)).toNat (IntKind.u64).bits))),IntKind.u64.wrap (a0+11400714819323198485))
def oI:Bb:=mC [] 101 Tryz.f101 .n [.k (.int .u64)] [.k (.int .u64), .k (.int .u64)] (fun x=>VQ x.1) Tryz.func101 (by kernel_rfl)
def RZ (a0:Int) (a1:Int) (a2:Int) (a3:Int) (a4:Int):Option (Am):=
 some (⟨a0,a1,a2,a2,a3,false,false,false,false,0,(⟨0,0,0⟩:A3 (Int)),a4,(-1:Int),(-1:Int),false,0,0⟩:Am)
def TY:Bb:=mC [] 24 Tryz.f24 .n [.k (.int .i64), .k (.int .i64), .k (.int .i64), .k (.int .i64), .k (.int .i64)] [.s 70] (fun x=>RZ x.1 x.2.1 x.2.2.1 x.2.2.2.1 x.2.2.2.2.1) Tryz.func24 (by kernel_rfl)
def ED (a0:List (Int)):Option (List (Int)):=if a0.length*8<=140737488355328/\a0.length<=maxLen then some a0 else none
theorem R1 {a0 r:List (Int)} (h:ED a0=some r):B1 Tryz.prog I0 32 [vL (eI .i64) a0] 3 1 (fun len cs=>len=r.length/\cs=r.flatMap (eI .i64)):=by
 refine B1.of (t:=2) (m:=7) Ca (by kernel_rfl) Tryz.func32 rfl rfl Tryz.ntmps32 ?_;intro w0 av old gv;unfold ED at h;split at h
 ·rename_i hb;injection h with h;subst h;refine Rg [.a] (sl 7 [(0,vL (eI .i64) a0)] []) (aN) ?_;have hr:app 8 ([]:List (Int)) a0=some a0:=by unfold app;rw [if_pos ⟨by simpa using hb.1,by simpa using hb.2⟩];rfl
  refine Ae.seq ?_;refine Ae.region ?_;refine Rp 1 [.a] (sl 7 [(0,vL (eI .i64) a0),(3,vL (eI .i64) a0)] []) (aN) ?_;refine Run.inl rfl rfl (DJ.clip (len:=a0.length) (cs:=a0.flatMap (eI .i64)) 3 1 4 rfl rfl ?_);refine Rw [.a,(.e a0.length (a0.flatMap (eI .i64))), .a] (sl 7 [(0,vL (eI .i64) a0),(2, .c (.e_ [4])),(3,vL (eI .i64) a0),(5,vL (eI .i64) a0),(6, .c (.e_ [4]))] [Jh [4] 3 1 (eI .i64) a0]) (aC (show (a0.flatMap (eI .i64)).length =a0.length*1 from BQ (enc:=eI .i64) (n:=1) (AeU .i64) _)<|aC (xo hr (eI .i64))<|aC (Lc hr)<|aN) ?_;refine Tn ?_;refine Ae.ret ?_;exact⟨.inr rfl, .inl ⟨[4],Jh [4] 3 1 (eI .i64) a0,a0.length,by kernel_rfl,by kernel_rfl,by kernel_rfl,AV _ (fun _=>rfl) _,⟨rfl,rfl⟩⟩⟩
 ·cases h
def VR:CE TE Tryz.prog I0:=a7 32 [.k (.l_ 3)] 3 (fun x=>ED x.1) (fun x r h=>Ms (by kernel_rfl) (R1 (r:=r) h))
def Bv (a0:List (Al)):Option (List (Al)):=if a0.length*152<=140737488355328/\a0.length<=maxLen then some a0 else none
theorem EE {a0 r:List (Al)} (h:Bv a0=some r):B1 Tryz.prog I0 65 [vL (Bs) a0] 61 14 (fun len cs=>len=r.length/\cs=r.flatMap (Bs)):=by
 refine B1.of (t:=2) (m:=8) Ca (by kernel_rfl) Tryz.func65 rfl rfl Tryz.ntmps65 ?_;intro w0 av old gv;unfold Bv at h;split at h
 ·rename_i hb;injection h with h;subst h;refine Rg [.a] (sl 8 [(0,vL (Bs) a0)] []) (aN) ?_;refine Ae.seq ?_;refine Ae.seq ?_;refine Ae.region ?_;refine Rp 1 [.a] (sl 8 [(0,vL (Bs) a0),(3,vL (Bs) a0)] []) (aN) ?_;refine Run.inl rfl rfl (DJ.aiv (len:=a0.length) (cs:=a0.flatMap (Bs)) rfl (fun b hbn=>?_));refine Rw [] (sl 8 [(0,vL (Bs) a0),(3,vL (Bs) a0),(4,vB b)] []) (aN) ?_;refine Tn ?_;refine Ae.ifB b (by kernel_rfl) (fun hb1=>?_) (fun hb1=>?_)
  ·have h0:a0=[]:=length_eq_zero_iff.1 (hbn hb1);refine Rg [.a] (sl 8 [(2, .c (.e_ [2]))] [Jh [2] 61 14 (Bs) ([]:List (Al))]) (aN) ?_;refine Ae.ret ?_;refine Tr ?_;exact⟨.inr rfl, .inl ⟨[2],Jh [2] 61 14 (Bs) ([]:List (Al)),0,by kernel_rfl,by kernel_rfl,by kernel_rfl,by kernel_rfl,by rw [h0];exact⟨rfl,rfl⟩⟩⟩
  ·refine Ae.skip ?_;refine Tn ?_;have hr:app 152 ([]:List (Al)) a0=some a0:=by unfold app;rw [if_pos ⟨by simpa using hb.1,by simpa using hb.2⟩];rfl
   refine Rg [.a, .a,(.e a0.length (a0.flatMap (Bs))), .a] (sl 8 [(2, .c (.e_ [5]))] [Jh [5] 61 14 (Bs) a0]) (aC (show (a0.flatMap (Bs)).length =a0.length*14 from BQ (enc:=Bs) (n:=14) rX _)<|aC (xo hr (Bs))<|aC (Lc hr)<|aN) ?_;refine Ae.ret ?_;exact⟨.inr rfl, .inl ⟨[5],Jh [5] 61 14 (Bs) a0,a0.length,by kernel_rfl,by kernel_rfl,by kernel_rfl,AV _ (fun _=>rfl) _,⟨rfl,rfl⟩⟩⟩
 ·cases h
def Fj:CE TE Tryz.prog I0:=a7 65 [.k (.l_ 61)] 61 (fun x=>Bv x.1) (fun x r h=>Ms (by kernel_rfl) (EE (r:=r) h))
def Bw (a0:List (Am)):Option (List (Am)):=if a0.length*128<=140737488355328/\a0.length<=maxLen then some a0 else none
theorem EF {a0 r:List (Am)} (h:Bw a0=some r):B1 Tryz.prog I0 67 [vL (A0) a0] 70 19 (fun len cs=>len=r.length/\cs=r.flatMap (A0)):=by
 refine B1.of (t:=2) (m:=8) Ca (by kernel_rfl) Tryz.func67 rfl rfl Tryz.ntmps67 ?_;intro w0 av old gv;unfold Bw at h;split at h
 ·rename_i hb;injection h with h;subst h;refine Rg [.a] (sl 8 [(0,vL (A0) a0)] []) (aN) ?_;refine Ae.seq ?_;refine Ae.seq ?_;refine Ae.region ?_;refine Rp 1 [.a] (sl 8 [(0,vL (A0) a0),(3,vL (A0) a0)] []) (aN) ?_;refine Run.inl rfl rfl (DJ.aiv (len:=a0.length) (cs:=a0.flatMap (A0)) rfl (fun b hbn=>?_));refine Rw [] (sl 8 [(0,vL (A0) a0),(3,vL (A0) a0),(4,vB b)] []) (aN) ?_;refine Tn ?_;refine Ae.ifB b (by kernel_rfl) (fun hb1=>?_) (fun hb1=>?_)
  ·have h0:a0=[]:=length_eq_zero_iff.1 (hbn hb1);refine Rg [.a] (sl 8 [(2, .c (.e_ [2]))] [Jh [2] 70 19 (A0) ([]:List (Am))]) (aN) ?_;refine Ae.ret ?_;refine Tr ?_;exact⟨.inr rfl, .inl ⟨[2],Jh [2] 70 19 (A0) ([]:List (Am)),0,by kernel_rfl,by kernel_rfl,by kernel_rfl,by kernel_rfl,by rw [h0];exact⟨rfl,rfl⟩⟩⟩
  ·refine Ae.skip ?_;refine Tn ?_;have hr:app 128 ([]:List (Am)) a0=some a0:=by unfold app;rw [if_pos ⟨by simpa using hb.1,by simpa using hb.2⟩];rfl
   refine Rg [.a, .a,(.e a0.length (a0.flatMap (A0))), .a] (sl 8 [(2, .c (.e_ [5]))] [Jh [5] 70 19 (A0) a0]) (aC (show (a0.flatMap (A0)).length =a0.length*19 from BQ (enc:=A0) (n:=19) rY _)<|aC (xo hr (A0))<|aC (Lc hr)<|aN) ?_;refine Ae.ret ?_;exact⟨.inr rfl, .inl ⟨[5],Jh [5] 70 19 (A0) a0,a0.length,by kernel_rfl,by kernel_rfl,by kernel_rfl,AV _ (fun _=>rfl) _,⟨rfl,rfl⟩⟩⟩
 ·cases h
def Fk:CE TE Tryz.prog I0:=a7 67 [.k (.l_ 70)] 70 (fun x=>Bw x.1) (fun x r h=>Ms (by kernel_rfl) (EF (r:=r) h))
def BI (a0:List (AK)):Option (List (AK)):=if a0.length*824<=140737488355328/\a0.length<=maxLen then some a0 else none
theorem FZ {a0 r:List (AK)} (h:BI a0=some r):B1 Tryz.prog I0 68 [vL (B6) a0] 126 94 (fun len cs=>len=r.length/\cs=r.flatMap (B6)):=by
 refine B1.of (t:=2) (m:=8) Ca (by kernel_rfl) Tryz.func68 rfl rfl Tryz.ntmps68 ?_;intro w0 av old gv;unfold BI at h;split at h
 ·rename_i hb;injection h with h;subst h;refine Rg [.a] (sl 8 [(0,vL (B6) a0)] []) (aN) ?_;refine Ae.seq ?_;refine Ae.seq ?_;refine Ae.region ?_;refine Rp 1 [.a] (sl 8 [(0,vL (B6) a0),(3,vL (B6) a0)] []) (aN) ?_;refine Run.inl rfl rfl (DJ.aiv (len:=a0.length) (cs:=a0.flatMap (B6)) rfl (fun b hbn=>?_));refine Rw [] (sl 8 [(0,vL (B6) a0),(3,vL (B6) a0),(4,vB b)] []) (aN) ?_;refine Tn ?_;refine Ae.ifB b (by kernel_rfl) (fun hb1=>?_) (fun hb1=>?_)
  ·have h0:a0=[]:=length_eq_zero_iff.1 (hbn hb1);refine Rg [.a] (sl 8 [(2, .c (.e_ [2]))] [Jh [2] 126 94 (B6) ([]:List (AK))]) (aN) ?_;refine Ae.ret ?_;refine Tr ?_;exact⟨.inr rfl, .inl ⟨[2],Jh [2] 126 94 (B6) ([]:List (AK)),0,by kernel_rfl,by kernel_rfl,by kernel_rfl,by kernel_rfl,by rw [h0];exact⟨rfl,rfl⟩⟩⟩
  ·refine Ae.skip ?_;refine Tn ?_;have hr:app 824 ([]:List (AK)) a0=some a0:=by unfold app;rw [if_pos ⟨by simpa using hb.1,by simpa using hb.2⟩];rfl
   refine Rg [.a, .a,(.e a0.length (a0.flatMap (B6))), .a] (sl 8 [(2, .c (.e_ [5]))] [Jh [5] 126 94 (B6) a0]) (aC (show (a0.flatMap (B6)).length =a0.length*94 from BQ (enc:=B6) (n:=94) zO _)<|aC (xo hr (B6))<|aC (Lc hr)<|aN) ?_;refine Ae.ret ?_;exact⟨.inr rfl, .inl ⟨[5],Jh [5] 126 94 (B6) a0,a0.length,by kernel_rfl,by kernel_rfl,by kernel_rfl,AV _ (fun _=>rfl) _,⟨rfl,rfl⟩⟩⟩
 ·cases h
def GQ:CE TE Tryz.prog I0:=a7 68 [.k (.l_ 126)] 126 (fun x=>BI x.1) (fun x r h=>Ms (by kernel_rfl) (FZ (r:=r) h))
def A8 (a0:List (AZ)):Option (List (AZ)):=if a0.length*176<=140737488355328/\a0.length<=maxLen then some a0 else none
theorem GR {a0 r:List (AZ)} (h:A8 a0=some r):B1 Tryz.prog I0 73 [vL (BV) a0] 148 20 (fun len cs=>len=r.length/\cs=r.flatMap (BV)):=by
 refine B1.of (t:=2) (m:=8) Ca (by kernel_rfl) Tryz.func73 rfl rfl Tryz.ntmps73 ?_;intro w0 av old gv;unfold A8 at h;split at h
 ·rename_i hb;injection h with h;subst h;refine Rg [.a] (sl 8 [(0,vL (BV) a0)] []) (aN) ?_;refine Ae.seq ?_;refine Ae.seq ?_;refine Ae.region ?_;refine Rp 1 [.a] (sl 8 [(0,vL (BV) a0),(3,vL (BV) a0)] []) (aN) ?_;refine Run.inl rfl rfl (DJ.aiv (len:=a0.length) (cs:=a0.flatMap (BV)) rfl (fun b hbn=>?_));refine Rw [] (sl 8 [(0,vL (BV) a0),(3,vL (BV) a0),(4,vB b)] []) (aN) ?_;refine Tn ?_;refine Ae.ifB b (by kernel_rfl) (fun hb1=>?_) (fun hb1=>?_)
  ·have h0:a0=[]:=length_eq_zero_iff.1 (hbn hb1);refine Rg [.a] (sl 8 [(2, .c (.e_ [2]))] [Jh [2] 148 20 (BV) ([]:List (AZ))]) (aN) ?_;refine Ae.ret ?_;refine Tr ?_;exact⟨.inr rfl, .inl ⟨[2],Jh [2] 148 20 (BV) ([]:List (AZ)),0,by kernel_rfl,by kernel_rfl,by kernel_rfl,by kernel_rfl,by rw [h0];exact⟨rfl,rfl⟩⟩⟩
  ·refine Ae.skip ?_;refine Tn ?_;have hr:app 176 ([]:List (AZ)) a0=some a0:=by unfold app;rw [if_pos ⟨by simpa using hb.1,by simpa using hb.2⟩];rfl
   refine Rg [.a, .a,(.e a0.length (a0.flatMap (BV))), .a] (sl 8 [(2, .c (.e_ [5]))] [Jh [5] 148 20 (BV) a0]) (aC (show (a0.flatMap (BV)).length =a0.length*20 from BQ (enc:=BV) (n:=20) Acu _)<|aC (xo hr (BV))<|aC (Lc hr)<|aN) ?_;refine Ae.ret ?_;exact⟨.inr rfl, .inl ⟨[5],Jh [5] 148 20 (BV) a0,a0.length,by kernel_rfl,by kernel_rfl,by kernel_rfl,AV _ (fun _=>rfl) _,⟨rfl,rfl⟩⟩⟩
 ·cases h
def Dt:CE TE Tryz.prog I0:=a7 73 [.k (.l_ 148)] 148 (fun x=>A8 x.1) (fun x r h=>Ms (by kernel_rfl) (GR (r:=r) h))
def BJ (a0:List (Da)):Option (List (Da)):=if a0.length*144<=140737488355328/\a0.length<=maxLen then some a0 else none
theorem F2 {a0 r:List (Da)} (h:BJ a0=some r):B1 Tryz.prog I0 112 [vL (BZ) a0] 184 18 (fun len cs=>len=r.length/\cs=r.flatMap (BZ)):=by
 refine B1.of (t:=2) (m:=8) Ca (by kernel_rfl) Tryz.func112 rfl rfl Tryz.ntmps112 ?_;intro w0 av old gv;unfold BJ at h;split at h
 ·rename_i hb;injection h with h;subst h;refine Rg [.a] (sl 8 [(0,vL (BZ) a0)] []) (aN) ?_;refine Ae.seq ?_;refine Ae.seq ?_;refine Ae.region ?_;refine Rp 1 [.a] (sl 8 [(0,vL (BZ) a0),(3,vL (BZ) a0)] []) (aN) ?_;refine Run.inl rfl rfl (DJ.aiv (len:=a0.length) (cs:=a0.flatMap (BZ)) rfl (fun b hbn=>?_));refine Rw [] (sl 8 [(0,vL (BZ) a0),(3,vL (BZ) a0),(4,vB b)] []) (aN) ?_;refine Tn ?_;refine Ae.ifB b (by kernel_rfl) (fun hb1=>?_) (fun hb1=>?_)
  ·have h0:a0=[]:=length_eq_zero_iff.1 (hbn hb1);refine Rg [.a] (sl 8 [(2, .c (.e_ [2]))] [Jh [2] 184 18 (BZ) ([]:List (Da))]) (aN) ?_;refine Ae.ret ?_;refine Tr ?_;exact⟨.inr rfl, .inl ⟨[2],Jh [2] 184 18 (BZ) ([]:List (Da)),0,by kernel_rfl,by kernel_rfl,by kernel_rfl,by kernel_rfl,by rw [h0];exact⟨rfl,rfl⟩⟩⟩
  ·refine Ae.skip ?_;refine Tn ?_;have hr:app 144 ([]:List (Da)) a0=some a0:=by unfold app;rw [if_pos ⟨by simpa using hb.1,by simpa using hb.2⟩];rfl
   refine Rg [.a, .a,(.e a0.length (a0.flatMap (BZ))), .a] (sl 8 [(2, .c (.e_ [5]))] [Jh [5] 184 18 (BZ) a0]) (aC (show (a0.flatMap (BZ)).length =a0.length*18 from BQ (enc:=BZ) (n:=18) zN _)<|aC (xo hr (BZ))<|aC (Lc hr)<|aN) ?_;refine Ae.ret ?_;exact⟨.inr rfl, .inl ⟨[5],Jh [5] 184 18 (BZ) a0,a0.length,by kernel_rfl,by kernel_rfl,by kernel_rfl,AV _ (fun _=>rfl) _,⟨rfl,rfl⟩⟩⟩
 ·cases h
def GT:CE TE Tryz.prog I0:=a7 112 [.k (.l_ 184)] 184 (fun x=>BJ x.1) (fun x r h=>Ms (by kernel_rfl) (F2 (r:=r) h))
def Bx (a0:List (Av)):Option (List (Av)):=if a0.length*560<=140737488355328/\a0.length<=maxLen then some a0 else none
theorem EG {a0 r:List (Av)} (h:Bx a0=some r):B1 Tryz.prog I0 113 [vL (Bk) a0] 180 64 (fun len cs=>len=r.length/\cs=r.flatMap (Bk)):=by
 refine B1.of (t:=2) (m:=8) Ca (by kernel_rfl) Tryz.func113 rfl rfl Tryz.ntmps113 ?_;intro w0 av old gv;unfold Bx at h;split at h
 ·rename_i hb;injection h with h;subst h;refine Rg [.a] (sl 8 [(0,vL (Bk) a0)] []) (aN) ?_;refine Ae.seq ?_;refine Ae.seq ?_;refine Ae.region ?_;refine Rp 1 [.a] (sl 8 [(0,vL (Bk) a0),(3,vL (Bk) a0)] []) (aN) ?_;refine Run.inl rfl rfl (DJ.aiv (len:=a0.length) (cs:=a0.flatMap (Bk)) rfl (fun b hbn=>?_));refine Rw [] (sl 8 [(0,vL (Bk) a0),(3,vL (Bk) a0),(4,vB b)] []) (aN) ?_;refine Tn ?_;refine Ae.ifB b (by kernel_rfl) (fun hb1=>?_) (fun hb1=>?_)
  ·have h0:a0=[]:=length_eq_zero_iff.1 (hbn hb1);refine Rg [.a] (sl 8 [(2, .c (.e_ [2]))] [Jh [2] 180 64 (Bk) ([]:List (Av))]) (aN) ?_;refine Ae.ret ?_;refine Tr ?_;exact⟨.inr rfl, .inl ⟨[2],Jh [2] 180 64 (Bk) ([]:List (Av)),0,by kernel_rfl,by kernel_rfl,by kernel_rfl,by kernel_rfl,by rw [h0];exact⟨rfl,rfl⟩⟩⟩
  ·refine Ae.skip ?_;refine Tn ?_;have hr:app 560 ([]:List (Av)) a0=some a0:=by unfold app;rw [if_pos ⟨by simpa using hb.1,by simpa using hb.2⟩];rfl
   refine Rg [.a, .a,(.e a0.length (a0.flatMap (Bk))), .a] (sl 8 [(2, .c (.e_ [5]))] [Jh [5] 180 64 (Bk) a0]) (aC (show (a0.flatMap (Bk)).length =a0.length*64 from BQ (enc:=Bk) (n:=64) rW _)<|aC (xo hr (Bk))<|aC (Lc hr)<|aN) ?_;refine Ae.ret ?_;exact⟨.inr rfl, .inl ⟨[5],Jh [5] 180 64 (Bk) a0,a0.length,by kernel_rfl,by kernel_rfl,by kernel_rfl,AV _ (fun _=>rfl) _,⟨rfl,rfl⟩⟩⟩
 ·cases h
def Fl:CE TE Tryz.prog I0:=a7 113 [.k (.l_ 180)] 180 (fun x=>Bx x.1) (fun x r h=>Ms (by kernel_rfl) (EG (r:=r) h))
def By (a0:List (EZ)):Option (List (EZ)):=if a0.length*16<=140737488355328/\a0.length<=maxLen then some a0 else none
theorem EH {a0 r:List (EZ)} (h:By a0=some r):B1 Tryz.prog I0 70 [vL (Bu) a0] 143 2 (fun len cs=>len=r.length/\cs=r.flatMap (Bu)):=by
 refine B1.of (t:=2) (m:=8) Ca (by kernel_rfl) Tryz.func70 rfl rfl Tryz.ntmps70 ?_;intro w0 av old gv;unfold By at h;split at h
 ·rename_i hb;injection h with h;subst h;refine Rg [.a] (sl 8 [(0,vL (Bu) a0)] []) (aN) ?_;refine Ae.seq ?_;refine Ae.seq ?_;refine Ae.region ?_;refine Rp 1 [.a] (sl 8 [(0,vL (Bu) a0),(3,vL (Bu) a0)] []) (aN) ?_;refine Run.inl rfl rfl (DJ.aiv (len:=a0.length) (cs:=a0.flatMap (Bu)) rfl (fun b hbn=>?_));refine Rw [] (sl 8 [(0,vL (Bu) a0),(3,vL (Bu) a0),(4,vB b)] []) (aN) ?_;refine Tn ?_;refine Ae.ifB b (by kernel_rfl) (fun hb1=>?_) (fun hb1=>?_)
  ·have h0:a0=[]:=length_eq_zero_iff.1 (hbn hb1);refine Rg [.a] (sl 8 [(2, .c (.e_ [2]))] [Jh [2] 143 2 (Bu) ([]:List (EZ))]) (aN) ?_;refine Ae.ret ?_;refine Tr ?_;exact⟨.inr rfl, .inl ⟨[2],Jh [2] 143 2 (Bu) ([]:List (EZ)),0,by kernel_rfl,by kernel_rfl,by kernel_rfl,by kernel_rfl,by rw [h0];exact⟨rfl,rfl⟩⟩⟩
  ·refine Ae.skip ?_;refine Tn ?_;have hr:app 16 ([]:List (EZ)) a0=some a0:=by unfold app;rw [if_pos ⟨by simpa using hb.1,by simpa using hb.2⟩];rfl
   refine Rg [.a, .a,(.e a0.length (a0.flatMap (Bu))), .a] (sl 8 [(2, .c (.e_ [5]))] [Jh [5] 143 2 (Bu) a0]) (aC (show (a0.flatMap (Bu)).length =a0.length*2 from BQ (enc:=Bu) (n:=2) rZ _)<|aC (xo hr (Bu))<|aC (Lc hr)<|aN) ?_;refine Ae.ret ?_;exact⟨.inr rfl, .inl ⟨[5],Jh [5] 143 2 (Bu) a0,a0.length,by kernel_rfl,by kernel_rfl,by kernel_rfl,AV _ (fun _=>rfl) _,⟨rfl,rfl⟩⟩⟩
 ·cases h
def Fm:CE TE Tryz.prog I0:=a7 70 [.k (.l_ 143)] 143 (fun x=>By x.1) (fun x r h=>Ms (by kernel_rfl) (EH (r:=r) h))
def Bi (a0:List (Ax)):Option (List (Ax)):=if a0.length*768<=140737488355328/\a0.length<=maxLen then some a0 else none
theorem D8 {a0 r:List (Ax)} (h:Bi a0=some r):B1 Tryz.prog I0 71 [vL (A9) a0] 129 89 (fun len cs=>len=r.length/\cs=r.flatMap (A9)):=by
 refine B1.of (t:=2) (m:=8) Ca (by kernel_rfl) Tryz.func71 rfl rfl Tryz.ntmps71 ?_;intro w0 av old gv;unfold Bi at h;split at h
 ·rename_i hb;injection h with h;subst h;refine Rg [.a] (sl 8 [(0,vL (A9) a0)] []) (aN) ?_;refine Ae.seq ?_;refine Ae.seq ?_;refine Ae.region ?_;refine Rp 1 [.a] (sl 8 [(0,vL (A9) a0),(3,vL (A9) a0)] []) (aN) ?_;refine Run.inl rfl rfl (DJ.aiv (len:=a0.length) (cs:=a0.flatMap (A9)) rfl (fun b hbn=>?_));refine Rw [] (sl 8 [(0,vL (A9) a0),(3,vL (A9) a0),(4,vB b)] []) (aN) ?_;refine Tn ?_;refine Ae.ifB b (by kernel_rfl) (fun hb1=>?_) (fun hb1=>?_)
  ·have h0:a0=[]:=length_eq_zero_iff.1 (hbn hb1);refine Rg [.a] (sl 8 [(2, .c (.e_ [2]))] [Jh [2] 129 89 (A9) ([]:List (Ax))]) (aN) ?_;refine Ae.ret ?_;refine Tr ?_;exact⟨.inr rfl, .inl ⟨[2],Jh [2] 129 89 (A9) ([]:List (Ax)),0,by kernel_rfl,by kernel_rfl,by kernel_rfl,by kernel_rfl,by rw [h0];exact⟨rfl,rfl⟩⟩⟩
  ·refine Ae.skip ?_;refine Tn ?_;have hr:app 768 ([]:List (Ax)) a0=some a0:=by unfold app;rw [if_pos ⟨by simpa using hb.1,by simpa using hb.2⟩];rfl
   refine Rg [.a, .a,(.e a0.length (a0.flatMap (A9))), .a] (sl 8 [(2, .c (.e_ [5]))] [Jh [5] 129 89 (A9) a0]) (aC (show (a0.flatMap (A9)).length =a0.length*89 from BQ (enc:=A9) (n:=89) ov _)<|aC (xo hr (A9))<|aC (Lc hr)<|aN) ?_;refine Ae.ret ?_;exact⟨.inr rfl, .inl ⟨[5],Jh [5] 129 89 (A9) a0,a0.length,by kernel_rfl,by kernel_rfl,by kernel_rfl,AV _ (fun _=>rfl) _,⟨rfl,rfl⟩⟩⟩
 ·cases h
def EI:CE TE Tryz.prog I0:=a7 71 [.k (.l_ 129)] 129 (fun x=>Bi x.1) (fun x r h=>Ms (by kernel_rfl) (D8 (r:=r) h))
def BK (a0:List (Bn)):Option (List (Bn)):=if a0.length*80<=140737488355328/\a0.length<=maxLen then some a0 else none
theorem F3 {a0 r:List (Bn)} (h:BK a0=some r):B1 Tryz.prog I0 72 [vL (B7) a0] 132 6 (fun len cs=>len=r.length/\cs=r.flatMap (B7)):=by
 refine B1.of (t:=2) (m:=8) Ca (by kernel_rfl) Tryz.func72 rfl rfl Tryz.ntmps72 ?_;intro w0 av old gv;unfold BK at h;split at h
 ·rename_i hb;injection h with h;subst h;refine Rg [.a] (sl 8 [(0,vL (B7) a0)] []) (aN) ?_;refine Ae.seq ?_;refine Ae.seq ?_;refine Ae.region ?_;refine Rp 1 [.a] (sl 8 [(0,vL (B7) a0),(3,vL (B7) a0)] []) (aN) ?_;refine Run.inl rfl rfl (DJ.aiv (len:=a0.length) (cs:=a0.flatMap (B7)) rfl (fun b hbn=>?_));refine Rw [] (sl 8 [(0,vL (B7) a0),(3,vL (B7) a0),(4,vB b)] []) (aN) ?_;refine Tn ?_;refine Ae.ifB b (by kernel_rfl) (fun hb1=>?_) (fun hb1=>?_)
  ·have h0:a0=[]:=length_eq_zero_iff.1 (hbn hb1);refine Rg [.a] (sl 8 [(2, .c (.e_ [2]))] [Jh [2] 132 6 (B7) ([]:List (Bn))]) (aN) ?_;refine Ae.ret ?_;refine Tr ?_;exact⟨.inr rfl, .inl ⟨[2],Jh [2] 132 6 (B7) ([]:List (Bn)),0,by kernel_rfl,by kernel_rfl,by kernel_rfl,by kernel_rfl,by rw [h0];exact⟨rfl,rfl⟩⟩⟩
  ·refine Ae.skip ?_;refine Tn ?_;have hr:app 80 ([]:List (Bn)) a0=some a0:=by unfold app;rw [if_pos ⟨by simpa using hb.1,by simpa using hb.2⟩];rfl
   refine Rg [.a, .a,(.e a0.length (a0.flatMap (B7))), .a] (sl 8 [(2, .c (.e_ [5]))] [Jh [5] 132 6 (B7) a0]) (aC (show (a0.flatMap (B7)).length =a0.length*6 from BQ (enc:=B7) (n:=6) zQ _)<|aC (xo hr (B7))<|aC (Lc hr)<|aN) ?_;refine Ae.ret ?_;exact⟨.inr rfl, .inl ⟨[5],Jh [5] 132 6 (B7) a0,a0.length,by kernel_rfl,by kernel_rfl,by kernel_rfl,AV _ (fun _=>rfl) _,⟨rfl,rfl⟩⟩⟩
 ·cases h
def GU:CE TE Tryz.prog I0:=a7 72 [.k (.l_ 132)] 132 (fun x=>BK x.1) (fun x r h=>Ms (by kernel_rfl) (F3 (r:=r) h))
end Go.PL
