/- Functions of the program, as partial functions in Lean, with proofs. -/
import Derived.Test.YtenjiecnhncfiaaGreatDoorPlBeB
open List (length_eq_zero_iff)
namespace Go.PL
open Go Go.RowKit Go.Proofs
set_option maxRecDepth 100000
set_option linter.all false
set_option maxHeartbeats 4000000
attribute [local irreducible] Ag Cv Co
def jO (a0:AH) (aqs:Int):Option (Bool):=
 (some (if decide (aqs<=400) then decide ((a0.l_.length:Int)<=8)else false)).bind fun b3=>
 some b3
def S9 (a0:AH) (amE:Int) (ajK:Int):Option ((Int×Int)⊕(Int)):=
 (if(decide (ajK<(a0.l_.length:Int))) then
  (idx a0.l_ ajK).bind fun e11=>
  some (.inl ((Ad (amE+(e11.length:Int))),(Ad (ajK+1))))
 else
  some (.inr amE))
def P9 (a0:AH):Option (Bool):=
 jn (fun(v:Int)=>jO a0 v) (fun K_=>
 (iter (fun(v:Int×Int)=>S9 a0 v.1 v.2) FU ((a0.aak.length:Int),(0:Int))).bind (fun o0=>K_ o0))
def mV:CE TE Tryz.prog I0:=AA [] Aa Ac 9 5 Tryz.f5 (Tryz.f5.body.getD .skip) (.s .n (.s .n (.j ⟨[1],[(3, .c (.v (.k (.int .i64))))],[[1]],[]⟩ (.s .n (.l ⟨[1,10,11],[(3, .c (.v (.k (.int .i64)))),(12, .c (.v (.k (.int .i64))))],[[1]],[]⟩ [(1,⟨[1],[(3, .c (.v (.k (.int .i64))))],[[1]],[]⟩)] .n)) .n))) [.s 26] [.k (.bool)] (fun x=>P9 x.1) Tryz.func5 rfl (by kernel_rfl)
def bj (a1:Int) (aht:Int) (aeH:List (List (Int))):Option (AH):=
 (n_ (aht=((aeH.length:Nat):Int))).bind fun _=>
 some (⟨([(⟨qw,false,(⟨0,0,(⟨0,0,0,0,0⟩:A5 (Int))⟩:AB),0,(⟨0,32,([]:List (List UInt8))⟩:I1),0,0,0,([]:List (AE))⟩:AO)]:List (AO)),aeH,a1,1⟩:AH)
def Xz (a0:Int) (amW:Int) (aaV:Int) (aaC:List (List (Int))):Option ((Int×Int×(List (List (Int))))⊕((Int×(List (List (Int)))))):=
 (if decide (amW<a0) then
  (idx aaC (0:Int)).bind fun e15=>
  (idx aaC (0:Int)).bind fun e16=>
  (n_ (0<aaV)).bind fun u17=>
  (app 8 e16 ([(0:Int)]:List (Int))).bind fun l18=>
  (idx aaC (0:Int)).bind fun e19=>
  (idx aaC (0:Int)).bind fun e20=>
  (n_ (0<aaV)).bind fun u21=>
  (n_ ((0:Int)=(0:Int))).bind fun u22=>
  (some (aaC.set ((0:Int)).toNat l18)).bind fun l23=>
  (idx l23 (1:Int)).bind fun e24=>
  (idx l23 (1:Int)).bind fun e25=>
  (n_ (1<aaV)).bind fun u26=>
  (app 8 e25 ([(0:Int)]:List (Int))).bind fun l27=>
  (idx l23 (1:Int)).bind fun e28=>
  (idx l23 (1:Int)).bind fun e29=>
  (n_ (1<aaV)).bind fun u30=>
  (n_ ((1:Int)=(1:Int))).bind fun u31=>
  (some (l23.set ((1:Int)).toNat l27)).bind fun l32=>
  some (.inl ((Ad (amW+1)),aaV,l32))
 else
  some (.inr (aaV,aaC)))
def Pc (a0:Int) (a1:Int):Option (AH):=
 jn (fun(v:Int×(List (List (Int))))=>bj a1 v.1 v.2) (fun jJ3=>
 (iter (fun(v:Int×Int×(List (List (Int))))=>Xz a0 v.1 v.2.1 v.2.2) FU ((0:Int),((([([]:List (Int)),([]:List (Int))]:List (List (Int))).length :Nat):Int),([([]:List (Int)),([]:List (Int))]:List (List (Int))))).bind (fun o0=>jJ3 (o0.1,o0.2)))
def dE:CE TE Tryz.prog I0:=xN [] Aa Ac 9 11 Tryz.f11 (Tryz.f11.body.getD .skip) (.s .n (.s (.r [] [] (.q 5 .sb .n)) (.j ⟨[4,5],[],[[4],[5],[9]],[([1000003,12], .deep 31)]⟩ (.s .n (.l ⟨[0,4,5],[(6, .c (.v (.k (.int .i64))))],[[4],[5],[9]],[([1000003,12], .deep 31)]⟩ [(1,⟨[4,5],[],[[4],[5],[9]],[([1000003,12], .deep 31)]⟩)] (.s .n (.s (.s (.r [] [] (.t (.q 5 .au (.q 9 .au .n)))) (.r [] [] (.t (.q 5 .au (.q 9 .au .n))))) .n)))) .n))) [[1,2,0,0]] [.k (.int .i64), .k (.int .u64)] [.s 26] (fun x=>Pc x.1 x.2.1) Tryz.func11 rfl (by kernel_rfl)
def W9:Option (Bool):=
 some true
def Gb (a0:List UInt8) (aid:Int):Option ((Int)⊕(Unit⊕Bool)):=
 (if(decide (aid<((Di a0).length :Int))) then
  (idx (Di a0) aid).bind fun e17=>
  (some (if decide (e17<97) then true else decide (122<e17))).bind fun b18=>
  (some (if decide (e17<48) then true else decide (57<e17))).bind fun b19=>
  (some (if b18 then b19 else false)).bind fun b20=>
  (some (if b20 then e17 != 45 else false)).bind fun b21=>
  (if b21 then
   some (.inr (.inr false))
  else
   some (.inl (Ad (aid+1))))
 else
  some (.inr (.inl ())))
def Qa (a0:List UInt8):Option (Bool):=
 (some (if((a0.length:Int)==0) then true else decide (32<(a0.length:Int)))).bind fun b1=>
 (gd (b1==false) (IH a0 (0:Int))).bind fun c2=>
 (some (if b1 then true else decide (c2<97))).bind fun b3=>
 (gd (b3==false) (IH a0 (0:Int))).bind fun c4=>
 (some (if b3 then true else decide (122<c4))).bind fun b5=>
 (gd (b5==false) (IH a0 (Ad ((a0.length:Int) - (1:Int))))).bind fun c6=>
 (some (if b5 then true else c6==45)).bind fun b7=>
 (gd (b7==false) (Jw a0 gC)).bind fun r8=>
 (if(if b7=true then true else r8) then
  some false
 else
  jn (fun(v:Unit)=>W9) (fun adX=>
  (n_ (a0.length<=140737488355328)).bind fun u11=>
  (iter (fun(v:Int)=>Gb a0 v) FU (0:Int)).bind (Sum.elim (fun o0=>adX ()) (fun o1=>some o1))))
def Vx:CE TE Tryz.prog I0:=AA [mU] Aa Ac 9 99 Tryz.f99 (Tryz.f99.body.getD .skip) (.s .n (.s .n (.j ⟨[],[],[],[]⟩ (.s (.r [] [] (.q 1 .by_ .n)) (.l ⟨[36,37],[(38, .c (.v (.k (.int .i64))))],[],[]⟩ [(1,⟨[],[],[],[]⟩),(0,⟨[],[(2, .c (.v (.k (.bool))))],[],[]⟩)] .n)) .n))) [.k (.str)] [.k (.bool)] (fun x=>Qa x.1) Tryz.func99 rfl (by kernel_rfl)
def bl (a0:AB):Option (Bool):=
 (some (if decide (0<=a0.Generic) then decide (a0.Generic<=99)else false)).bind fun b2=>
 (some (if b2 then decide (0<=a0.X)else false)).bind fun b3=>
 (some (if b3 then decide (a0.X<=2)else false)).bind fun b4=>
 some b4
def Ev (a0:AB) (amj:Int):Option ((Int)⊕(Unit⊕Bool)):=
 (if decide (amj<5) then
  (idx a0.Color.l amj).bind fun e10=>
  (some (if decide (e10<0) then true else decide (9<e10))).bind fun b11=>
  (if b11 then
   some (.inr (.inr false))
  else
   some (.inl (Ad (amj+1))))
 else
  some (.inr (.inl ())))
def Qb (a0:AB):Option (Bool):=
 jn (fun(v:Unit)=>bl a0) (fun jJ1=>
 (iter (fun(v:Int)=>Ev a0 v) FU (0:Int)).bind (Sum.elim (fun o0=>jJ1 ()) (fun o1=>some o1)))
def Vy:CE TE Tryz.prog I0:=AA [] Aa Ac 9 100 Tryz.f100 (Tryz.f100.body.getD .skip) (.s .n (.j ⟨[1],[],[[1]],[]⟩ (.s .n (.l ⟨[1,6],[(7, .c (.v (.k (.int .i64))))],[[1]],[]⟩ [(1,⟨[1],[],[[1]],[]⟩),(0,⟨[],[(2, .c (.v (.k (.bool))))],[],[]⟩)] .n)) .n)) [.s 45] [.k (.bool)] (fun x=>Qb x.1) Tryz.func100 rfl (by kernel_rfl)
def HT (a0:Int):Option (Bool):=
 (some (if((Fk .i64 a0 (6:Int))==(0:Int)) then true else a0==2)).bind fun b1=>
 (some (if b1 then true else a0==4)).bind fun b2=>
 some b2
def XA:CE TE Tryz.prog I0:=AA [] Aa Ac 9 142 Tryz.f142 (Tryz.f142.body.getD .skip) .n [.k (.int .i64)] [.k (.bool)] (fun x=>HT x.1) Tryz.func142 rfl (by kernel_rfl)
def Kv:Option (Int):=
 some (0:Int)
def B6 (a0:List UInt8) (a1:Int) (abT:Int):Option ((Int)⊕(Unit⊕Int)):=
 (if decide (abT<a1) then
  (idx (⟨P4,Nf⟩:A2 (List UInt8)).l abT).bind fun e7=>
  (if e7 != a0 then
   some (.inl (Ad (abT+1)))
  else
   (n_ (0<=abT)).bind fun u9=>
   some (.inr (.inr (Ad ((1:Int)*2 ^ (min (abT).toNat (IntKind.i64).bits))))))
 else
  some (.inr (.inl ())))
def Cw (a0:List UInt8) (a1:Int):Option (Int):=
 jn (fun(v:Unit)=>Kv) (fun jJ1=>
 (iter (fun(v:Int)=>B6 a0 a1 v) FU (0:Int)).bind (Sum.elim (fun o0=>jJ1 ()) (fun o1=>some o1)))
def KM:CE TE Tryz.prog I0:=AA [] Aa Ac 9 176 Tryz.f176 (Tryz.f176.body.getD .skip) (.s .n (.s .n (.j ⟨[],[],[],[]⟩ (.s .n (.l ⟨[0,2,8],[(9, .c (.v (.k (.int .i64))))],[],[]⟩ [(1,⟨[],[],[],[]⟩),(0,⟨[],[(6, .c (.v (.k (.int .i64))))],[],[]⟩)] (.s .n (.s .n (.s (.s .n (.s (.s (.r [] [] (.c 2 .n .n)) .n) .n)) .n))))) .n))) [.k (.str), .k (.int .i64), .f 177] [.k (.int .i64)] (fun x=>Cw x.1 x.2.1) Tryz.func176 rfl (by kernel_rfl)
def KN:Option (Int):=
 some (0:Int)
def Cd (a0:List UInt8) (a1:Int) (abT:Int):Option ((Int)⊕(Unit⊕Int)):=
 (if decide (abT<a1) then
  (idx (⟨GF,Ir,Kt,Me,Mf,O5⟩:A6 (List UInt8)).l abT).bind fun e7=>
  (if e7 != a0 then
   some (.inl (Ad (abT+1)))
  else
   (n_ (0<=abT)).bind fun u9=>
   some (.inr (.inr (Ad ((1:Int)*2 ^ (min (abT).toNat (IntKind.i64).bits))))))
 else
  some (.inr (.inl ())))
def CI (a0:List UInt8) (a1:Int):Option (Int):=
 jn (fun(v:Unit)=>KN) (fun jJ1=>
 (iter (fun(v:Int)=>Cd a0 a1 v) FU (0:Int)).bind (Sum.elim (fun o0=>jJ1 ()) (fun o1=>some o1)))
def Ly:CE TE Tryz.prog I0:=AA [] Aa Ac 9 176 Tryz.f176 (Tryz.f176.body.getD .skip) (.s .n (.s .n (.j ⟨[],[],[],[]⟩ (.s .n (.l ⟨[0,2,8],[(9, .c (.v (.k (.int .i64))))],[],[]⟩ [(1,⟨[],[],[],[]⟩),(0,⟨[],[(6, .c (.v (.k (.int .i64))))],[],[]⟩)] (.s .n (.s .n (.s (.s .n (.s (.s (.r [] [] (.c 2 .n .n)) .n) .n)) .n))))) .n))) [.k (.str), .k (.int .i64), .f 178] [.k (.int .i64)] (fun x=>CI x.1 x.2.1) Tryz.func176 rfl (by kernel_rfl)
def FN (a0:Int):Option (Bool):=
 (some (if decide (0<=a0) then decide (a0<=131071)else false)).bind fun b1=>
 some b1
def TA:CE TE Tryz.prog I0:=AA [] Aa Ac 9 102 Tryz.f102 (Tryz.f102.body.getD .skip) .n [.k (.int .i64)] [.k (.bool)] (fun x=>FN x.1) Tryz.func102 rfl (by kernel_rfl)
def Is (a0:Int):Option (Bool):=
 (some (if decide (0<=a0) then decide (a0<=31)else false)).bind fun b1=>
 some b1
def bm:CE TE Tryz.prog I0:=AA [] Aa Ac 9 103 Tryz.f103 (Tryz.f103.body.getD .skip) .n [.k (.int .i64)] [.k (.bool)] (fun x=>Is x.1) Tryz.func103 rfl (by kernel_rfl)
def qJ (a0:Int) (r:Bool):Prop:=Ce Tryz.prog I0 103 [vI a0] (· =vB r)
theorem mW {a0:Int} {r:Bool} (h:Is a0=some r):qJ a0 r:=Mc (by kernel_rfl) (bm.ok (a0,()) r h)
def EN (a0:AE) (a1:AE):Option (Bool):=
 (some (if a0.Filter==a1.Filter then(a0.Tg.length:Int)==(a1.Tg.length:Int)else false)).bind fun b1=>
 (some (if b1 then a0.y_==a1.y_ else false)).bind fun b2=>
 (some (if b2 then a0.ac0==a1.ac0 else false)).bind fun b3=>
 (some (if b3 then a0.c_==a1.c_ else false)).bind fun b4=>
 (some (if b4 then a0.May==a1.May else false)).bind fun b5=>
 (some (if b5 then(a0.D_.length:Int)==(a1.D_.length:Int)else false)).bind fun b6=>
 (some (if b6 then(a0.f_.length:Int)==(a1.f_.length:Int)else false)).bind fun b7=>
 (some (if b7 then a0.Replace==a1.Replace else false)).bind fun b8=>
 some b8
def bn:CE TE Tryz.prog I0:=AA [] Aa Ac 9 144 Tryz.f144 (Tryz.f144.body.getD .skip) .n [.s 104, .s 104] [.k (.bool)] (fun x=>EN x.1 x.2.1) Tryz.func144 rfl (by kernel_rfl)
def Bb (a0:Int) (a1:Int):Option (Bool):=
 (some (if decide (0<=a0) then decide (a0<=a1)else false)).bind fun b1=>
 some b1
def Mk:CE TE Tryz.prog I0:=AA [] Aa Ac 9 179 Tryz.f179 (Tryz.f179.body.getD .skip) .n [.k (.int .i64), .k (.int .i64)] [.k (.bool)] (fun x=>Bb x.1 x.2.1) Tryz.func179 rfl (by kernel_rfl)
def II (a0:Int) (a1:Int) (a2:Int):Option (Bool):=
 (some (if decide (a1<=a0) then decide (a0<=a2)else false)).bind fun b1=>
 some b1
def ye:CE TE Tryz.prog I0:=AA [] Aa Ac 9 217 Tryz.f217 (Tryz.f217.body.getD .skip) .n [.k (.int .i64), .k (.int .i64), .k (.int .i64)] [.k (.bool)] (fun x=>II x.1 x.2.1 x.2.2.1) Tryz.func217 rfl (by kernel_rfl)
def Iu (ahO:A1):Option (A1):=
 some ahO
def GH (a0:A1) (K_:(A1)->Option (A1)) (anX:Bool):Option (A1):=
 (if anX then
  K_ (⟨a0.Kind,a0.N,a0.M,[],(⟨0,0,0,0,0,0,0,[],0,0,(⟨0,0⟩:Af),(⟨0,0⟩:Af),(⟨0,0⟩:Af)⟩:Aj)⟩:A1)
 else
  K_ (⟨a0.Kind,0,0,[],(⟨0,0,0,0,0,0,0,[],0,0,(⟨0,0⟩:Af),(⟨0,0⟩:Af),(⟨0,0⟩:Af)⟩:Aj)⟩:A1))
def Iv (a0:A1) (K_:(A1)->Option (A1)) (ap4:Bool):Option (A1):=
 (if ap4 then
  K_ (⟨a0.Kind,0,0,a0.Sub,(⟨0,0,0,0,0,0,0,[],0,0,(⟨0,0⟩:Af),(⟨0,0⟩:Af),(⟨0,0⟩:Af)⟩:Aj)⟩:A1)
 else
  (if a0.Kind==11 then
   K_ (⟨a0.Kind,0,0,[],a0.Filter⟩:A1)
  else
   jn (fun(v:Bool)=>GH a0 K_ v) (fun aaR=>
   (if a0.Kind==12 then
    aaR (a0.Kind==12)
   else
    aaR (a0.Kind==13)))))
def Iw (a0:A1) (K_:(A1)->Option (A1)) (abT:Bool):Option (A1):=
 (if abT then
  K_ (⟨a0.Kind,a0.N,0,[],(⟨0,0,0,0,0,0,0,[],0,0,(⟨0,0⟩:Af),(⟨0,0⟩:Af),(⟨0,0⟩:Af)⟩:Aj)⟩:A1)
 else
  jn (fun(v:Bool)=>Iv a0 K_ v) (fun jJ7=>
  (if a0.Kind==4 then
   jJ7 (a0.Kind==4)
  else
   jJ7 (a0.Kind==5))))
def Ml (a0:A1):Option (A1):=
 jn (fun(v:A1)=>Iu v) (fun K_=>
 jn (fun(v:Bool)=>Iw a0 K_ v) (fun jJ4=>
 (if a0.Kind==2 then
  jJ4 (a0.Kind==2)
 else
  (if a0.Kind==3 then
   jJ4 (a0.Kind==3)
  else
   (if a0.Kind==6 then
    jJ4 (a0.Kind==6)
   else
    (if a0.Kind==7 then
     jJ4 (a0.Kind==7)
    else
     (if a0.Kind==8 then
      jJ4 (a0.Kind==8)
     else
      jJ4 (a0.Kind==9))))))))
def qK:CE TE Tryz.prog I0:=AA [] Aa Ac 9 218 Tryz.f218 (Tryz.f218.body.getD .skip) (.s .n (.s .n (.j ⟨[2,3],[],[[2]],[([3], .box [.v (.s 140)])]⟩ (.s .n (.j ⟨[1,2,3,8],[(9, .c (.v (.k (.bool))))],[[1],[2],[3]],[]⟩ .n (.i .n (.j ⟨[1,2,3,8],[(19, .c (.v (.k (.bool))))],[[1],[2],[3]],[]⟩ .n (.i .n (.s .n (.i .n (.j ⟨[1,2,3],[(30, .c (.v (.k (.bool))))],[[1],[2],[3]],[]⟩ .n (.i (.r [] [] (.t .n)) .n))))))))) .n))) [.s 140] [.s 140] (fun x=>Ml x.1) Tryz.func218 rfl (by kernel_rfl)
def mX (awt:List (Int)):Option ((List (Int))):=
 some awt
def jP (agF:Int) (agU:List (Int)):Option ((Int×(List (Int)))⊕((List (Int)))):=
 some (.inl ((Ad (agF+1)),agU))
def TB (a0:Int) (agF:Int) (alx:List (Int)):Option ((Int×(List (Int)))⊕((List (Int)))):=
 (if decide (agF<31) then
  jn (fun(v:(List (Int)))=>jP agF v) (fun aez=>
  (n_ (0<=agF)).bind fun u14=>
  (if((Fk .i64 (Int.fdiv a0 (2 ^ (min (agF).toNat (IntKind.i64).bits))) (1:Int))==(1:Int)) then
   (app 8 alx ([agF]:List (Int))).bind fun l16=>
   aez l16
  else
   aez alx))
 else
  some (.inr alx))
def Ft (a0:Int):Option ((List (Int))):=
 (if decide (a0<0) then
  some ([]:List (Int))
 else
  jn (fun(v:(List (Int)))=>mX v) (fun jJ3=>
  (iter (fun(v:Int×(List (Int)))=>TB a0 v.1 v.2) FU ((0:Int),([]:List (Int)))).bind (fun o0=>jJ3 o0)))
def RC:CE TE Tryz.prog I0:=AA [] Aa Ac 9 243 Tryz.f243 (Tryz.f243.body.getD .skip) (.s .n (.s .n (.s .n (.j ⟨[],[(3, .c (.c (.h_ [3])))],[],[([3], .row 3)]⟩ (.s .n (.l ⟨[0],[(3, .c (.c (.h_ [3]))),(8, .c (.v (.k (.int .i64))))],[],[([3], .row 3)]⟩ [(1,⟨[],[(3, .c (.c (.h_ [3])))],[],[([3], .row 3)]⟩)] (.s .n (.s .n (.j ⟨[0,8],[(3, .c (.c (.h_ [3])))],[],[([3], .row 3)]⟩ .n .n))))) .n)))) [.k (.int .i64)] [.k (.u_ 3)] (fun x=>Ft x.1) Tryz.func243 rfl (by kernel_rfl)
def Vz:Option ((List UInt8)):=
 some ([]:List UInt8)
def VA (a0:List (List UInt8)) (aeF:Int):Option ((Int)⊕(Unit⊕(List UInt8))):=
 (if(decide (aeF<(a0.length:Int))) then
  (idx a0 aeF).bind fun e7=>
  (if(e7 != ([]:List UInt8)) then
   some (.inr (.inr e7))
  else
   some (.inl (Ad (aeF+1))))
 else
  some (.inr (.inl ())))
def BR (a0:List (List UInt8)):Option ((List UInt8)):=
 jn (fun(v:Unit)=>Vz) (fun jJ1=>
 (iter (fun(v:Int)=>VA a0 v) FU (0:Int)).bind (Sum.elim (fun o0=>jJ1 ()) (fun o1=>some o1)))
def NZ:CE TE Tryz.prog I0:=AA [] Aa Ac 9 247 Tryz.f247 (Tryz.f247.body.getD .skip) (.s .n (.s .n (.j ⟨[3],[],[],[]⟩ (.s .n (.l ⟨[3,6,7],[(8, .c (.v (.k (.int .i64))))],[],[]⟩ [(1,⟨[3],[],[],[]⟩),(0,⟨[],[(2, .c (.v (.k (.str))))],[],[]⟩)] .n)) .n))) [.k (.u_ 9)] [.k (.str)] (fun x=>BR x.1) Tryz.func247 rfl (by kernel_rfl)
def Gd (a0:List (List UInt8)) (a1:List UInt8):Option ((List UInt8)):=
 (QD a0 a1).bind fun r1=>
 some r1
def Pd:CE TE Tryz.prog I0:=AA [jN] Aa Ac 9 183 Tryz.f183 (Tryz.f183.body.getD .skip) .n [.k (.u_ 9), .k (.str)] [.k (.str)] (fun x=>Gd x.1 x.2.1) Tryz.func183 rfl (by kernel_rfl)
def IJ (a0:Int):Option ((List UInt8)):=
 (if a0==1 then
  some Pb
 else
  (if a0==2 then
   some Ku
  else
   (if a0==3 then
    some Hw
   else
    (if a0==4 then
     some Nm
    else
     (if a0==5 then
      some Nn
     else
      some ([]:List UInt8))))))
def TC:CE TE Tryz.prog I0:=AA [] Aa Ac 9 224 Tryz.f224 (Tryz.f224.body.getD .skip) .n [.k (.int .i64)] [.k (.str)] (fun x=>IJ x.1) Tryz.func224 rfl (by kernel_rfl)
def Dd (a0:Int):Option ((List UInt8)):=
 (gA a0).bind fun r1=>
 some r1
def Nv:CE TE Tryz.prog I0:=AA [Abe] Aa Ac 9 192 Tryz.f192 (Tryz.f192.body.getD .skip) .n [.k (.int .i64)] [.k (.str)] (fun x=>Dd x.1) Tryz.func192 rfl (by kernel_rfl)
def Du (a1:Int) (anV:Bool):Option (Bool):=
 (if anV then
  (some (if a1==8 then true else a1==4)).bind fun b13=>
  (some (if b13 then true else a1==3)).bind fun b14=>
  some b14
 else
  some false)
def CJ (a0:Int) (a1:Int):Option (Bool):=
 (if a0==1 then
  (some (if a1==1 then true else a1==2)).bind fun b2=>
  (some (if b2 then true else a1==3)).bind fun b3=>
  (some (if b3 then true else a1==4)).bind fun b4=>
  some b4
 else
  (if a0==2 then
   (some (if a1==5 then true else a1==6)).bind fun b6=>
   (some (if b6 then true else a1==7)).bind fun b7=>
   some b7
  else
   (if a0==3 then
    (some (if a1==8 then true else a1==4)).bind fun b9=>
    some b9
   else
    jn (fun(v:Bool)=>Du a1 v) (fun aaR=>
    (if a0==4 then
     aaR (a0==4)
    else
     (if a0==5 then
      aaR (a0==5)
     else
      (if a0==10 then
       aaR (a0==10)
      else
       aaR (a0==8))))))))
def bp:CE TE Tryz.prog I0:=AA [] Aa Ac 9 184 Tryz.f184 (Tryz.f184.body.getD .skip) (.s .n (.s (.s .n (.s .n (.i .n (.s .n (.i .n (.s .n (.i .n (.j ⟨[1],[(42, .c (.v (.k (.bool))))],[],[]⟩ .n .n)))))))) .n)) [.k (.int .i64), .k (.int .i64)] [.k (.bool)] (fun x=>CJ x.1 x.2.1) Tryz.func184 rfl (by kernel_rfl)
def GI (al6:Au):Option (Au):=
 some al6
def GJ (a0:Au) (ajs:Au) (jJ8:(Au)->Option (Au)):Option (Au):=
 jJ8 ({ajs with Filter:=a0.Filter})
def FO (jJ8:(Au)->Option (Au)) (aug:Au):Option (Au):=
 jJ8 aug
def GK (a0:Au) (ajs:Au):Option (Au):=
 jn (fun(v:Au)=>GI v) (fun jJ8=>
 jn (fun(v:Unit)=>GJ a0 ajs jJ8) (fun jJ9=>
 (if a0.On==1 then
  jn (fun(v:Au)=>FO jJ8 v) (fun afs=>
  (if a0.Who==0 then
   afs ({{ajs with Who:=a0.Who}with Filter:=a0.Filter})
  else
   afs ({ajs with Who:=a0.Who})))
 else
  (if a0.On==2 then
   jJ9 ()
  else
   (if a0.On==8 then
    jJ9 ()
   else
    jJ8 ({ajs with Who:=a0.Who}))))))
def GM (a0:Au) (al7:Au):Option (Au):=
 jn (fun(v:Au)=>GK a0 v) (fun jJ6=>
 (if a0.Do==5 then
  jJ6 ({al7 with q_:=a0.q_})
 else
  jJ6 al7))
def GN (a0:Au) (ahO:Au):Option (Au):=
 jn (fun(v:Au)=>GM a0 v) (fun jJ4=>
 (if a0.Do==7 then
  jJ4 ({ahO with o_:=a0.o_})
 else
  jJ4 ahO))
def Ew (a0:Au):Option (Au):=
 jn (fun(v:Au)=>GN a0 v) (fun K_=>
 (some (if a0.Do==2 then true else a0.Do==4)).bind fun b18=>
 (some (if b18 then true else a0.Do==7)).bind fun b19=>
 (if b19 then
  K_ (⟨a0.On,0,(⟨0,0,0,0,0,0,0,[],0,0,(⟨0,0⟩:Af),(⟨0,0⟩:Af),(⟨0,0⟩:Af)⟩:Aj),a0.Do,a0.N,0,0⟩:Au)
 else
  K_ (⟨a0.On,0,(⟨0,0,0,0,0,0,0,[],0,0,(⟨0,0⟩:Af),(⟨0,0⟩:Af),(⟨0,0⟩:Af)⟩:Aj),a0.Do,0,0,0⟩:Au)))
def VB:CE TE Tryz.prog I0:=AA [] Aa Ac 9 185 Tryz.f185 (Tryz.f185.body.getD .skip) (.s .n (.s .n (.j ⟨[1,2,3],[],[[1],[2]],[([3], .box [.v (.s 102)])]⟩ .n (.j ⟨[1,2,3],[],[[1],[2]],[([3], .box [.v (.s 102)])]⟩ .n (.j ⟨[1,2,3],[],[[1],[2]],[([3], .box [.v (.s 102)])]⟩ .n (.j ⟨[2,3],[],[[2]],[([3], .box [.v (.s 102)])]⟩ (.s .n (.s (.j ⟨[1,2,3],[],[[1],[2],[3]],[]⟩ (.s .n (.j ⟨[2,3],[],[[2]],[([3], .box [.v (.s 102)])]⟩ .n .n)) .n) .n)) .n)))))) [.s 102] [.s 102] (fun x=>Ew x.1) Tryz.func185 rfl (by kernel_rfl)
def EO (a0:Int):Option ((List UInt8)):=
 (some (if decide (a0<0) then true else decide (3<=a0))).bind fun b1=>
 (if b1 then
  some ([]:List UInt8)
 else
  (n_ (0<=a0/\a0<((3:Nat):Int))).bind fun u3=>
  (n_ (a0.toNat<Hs.length)).bind fun u4=>
  some (Hs.getD a0.toNat []))
def Kw:CE TE Tryz.prog I0:=AA [AeH] Aa Ac 9 186 Tryz.f186 (Tryz.f186.body.getD .skip) (.s .n (.s .n (.s (.r [] [] (.q 1 .ga (.q 2 .gl .n))) .n))) [.k (.int .i64)] [.k (.str)] (fun x=>EO x.1) Tryz.func186 rfl (by kernel_rfl)
def Gf (a0:Int):Option ((List UInt8)):=
 (some (if decide (a0<0) then true else decide (27<=a0))).bind fun b1=>
 (if b1 then
  some ([]:List UInt8)
 else
  (idx (⟨([]:List UInt8),Np,Ld,SX,SY,Le,SZ,S0,S1,P7,YQ,S2,Nq,YR,S3,Lf,S4,Nr,Fs,S5,S6,Ns,Nt,S7,YS,Nu,P8⟩:A27 (List UInt8)).l a0).bind fun e3=>
  (idx ((⟨([]:List UInt8),Np,Ld,SX,SY,Le,SZ,S0,S1,P7,YQ,S2,Nq,YR,S3,Lf,S4,Nr,Fs,S5,S6,Ns,Nt,S7,YS,Nu,P8⟩:A27 (List UInt8)).l) a0).bind fun e4=>
  some e4)
def dF:CE TE Tryz.prog I0:=AA [] Aa Ac 9 188 Tryz.f188 (Tryz.f188.body.getD .skip) .n [.k (.int .i64)] [.k (.str)] (fun x=>Gf x.1) Tryz.func188 rfl (by kernel_rfl)
def TD (ahO:AL):Option (AL):=
 some ahO
def TF (K_:(AL)->Option (AL)) (al7:AL):Option (AL):=
 K_ ({al7 with ref:=true})
def TG (jJ4:(AL)->Option (AL)) (ajs:AL):Option (AL):=
 jJ4 ({ajs with acY:=true})
def QG (a0:Int) (K_:(AL)->Option (AL)) (jJ4:(AL)->Option (AL)) (an2:Bool):Option (AL):=
 (if an2 then
  jJ4 (⟨false,false,false,false,false,false,false,false⟩:AL)
 else
  (if a0==3 then
   K_ (⟨true,false,false,true,false,false,false,false⟩:AL)
  else
   (if a0==12 then
    K_ (⟨true,true,false,false,true,false,false,false⟩:AL)
   else
    (if a0==13 then
     K_ (⟨true,false,false,false,false,false,false,true⟩:AL)
    else
     (if a0==14 then
      K_ (⟨false,false,false,false,false,false,true,false⟩:AL)
     else
      (if a0==18 then
       K_ (⟨true,true,false,false,false,true,false,false⟩:AL)
      else
       (if a0==20 then
        K_ (⟨false,true,false,false,false,false,false,false⟩:AL)
       else
        (if a0==21 then
         K_ (⟨false,false,false,false,false,true,false,false⟩:AL)
        else
         K_ (⟨false,false,false,false,false,false,false,false⟩:AL)))))))))
def QH (a0:Int) (K_:(AL)->Option (AL)) (jJ4:(AL)->Option (AL)) (jJ6:(AL)->Option (AL)) (apY:Bool):Option (AL):=
 (if apY then
  jJ6 (⟨false,false,false,false,false,false,false,false⟩:AL)
 else
  jn (fun(v:Bool)=>QG a0 K_ jJ4 v) (fun adm=>
  (if a0==2 then
   adm (a0==2)
  else
   (if a0==8 then
    adm (a0==8)
   else
    (if a0==9 then
     adm (a0==9)
    else
     (if a0==15 then
      adm (a0==15)
     else
      (if a0==16 then
       adm (a0==16)
      else
       (if a0==17 then
        adm (a0==17)
       else
        adm (a0==25)))))))))
def TH (a0:Int) (K_:(AL)->Option (AL)) (jJ4:(AL)->Option (AL)) (jJ6:(AL)->Option (AL)) (acM:Bool):Option (AL):=
 (if acM then
  jJ6 (⟨false,false,true,false,false,false,false,false⟩:AL)
 else
  jn (fun(v:Bool)=>QH a0 K_ jJ4 jJ6 v) (fun aaR=>
  (if a0==1 then
   aaR (a0==1)
  else
   (if a0==4 then
    aaR (a0==4)
   else
    (if a0==5 then
     aaR (a0==5)
    else
     (if a0==6 then
      aaR (a0==6)
     else
      (if a0==7 then
       aaR (a0==7)
      else
       (if a0==19 then
        aaR (a0==19)
       else
        (if a0==22 then
         aaR (a0==22)
        else
         aaR (a0==26))))))))))
def Jx (a0:Int):Option (AL):=
 jn (fun(v:AL)=>TD v) (fun K_=>
 jn (fun(v:AL)=>TF K_ v) (fun jJ4=>
 jn (fun(v:AL)=>TG jJ4 v) (fun jJ6=>
 jn (fun(v:Bool)=>TH a0 K_ jJ4 jJ6 v) (fun jJ8=>
 (if a0==10 then
  jJ8 (a0==10)
 else
  jJ8 (a0==11))))))
def mY:CE TE Tryz.prog I0:=AA [] Aa Ac 9 190 Tryz.f190 (Tryz.f190.body.getD .skip) (.s .n (.s .n (.j ⟨[2,3],[],[[2]],[([3], .box [.v (.s 223)])]⟩ (.s .n (.s (.s (.s (.s (.s (.s (.s (.j ⟨[2,3],[],[[2]],[([3], .box [.v (.s 223)])]⟩ (.j ⟨[2,3],[],[[2]],[([3], .box [.v (.s 223)])]⟩ (.s (.s (.s (.j ⟨[2,3,4],[(5, .c (.v (.k (.bool))))],[[2],[3]],[]⟩ .n .n) (.s (.j ⟨[2,3,4],[(8, .c (.v (.k (.bool))))],[[2],[3]],[]⟩ .n .n) (.s (.j ⟨[2,3,4],[(17, .c (.v (.k (.bool))))],[[2],[3]],[]⟩ .n .n) .n))) .n) .n) .n) .n) .n) .n) .n) .n) .n) .n) .n)) .n))) [.k (.int .i64)] [.s 223] (fun x=>Jx x.1) Tryz.func190 rfl (by kernel_rfl)
def Kx (ark:AY):Option (AY):=
 some ({ark with Kind:=(0:Int)})
def Ky (K_:(AY)->Option (AY)) (ayQ:AY):Option (AY):=
 K_ ({ayQ with N:=(0:Int)})
def Lg (a0:AY):Option (AY):=
 jn (fun(v:AY)=>Kx v) (fun K_=>
 jn (fun(v:AY)=>Ky K_ v) (fun jJ4=>
 (if a0.Kind==2 then
  jJ4 ({a0 with Filter:=(⟨0,0,0,0,0,0,0,[],0,0,(⟨0,0⟩:Af),(⟨0,0⟩:Af),(⟨0,0⟩:Af)⟩:Aj)})
 else
  (if a0.Kind==0 then
   jJ4 a0
  else
   (if a0.Kind==4 then
    K_ ({a0 with o_:=(0:Int)})
   else
    K_ a0)))))
def dG:CE TE Tryz.prog I0:=AA [] Aa Ac 9 248 Tryz.f248 (Tryz.f248.body.getD .skip) (.s .n (.j ⟨[1,2],[],[[2]],[([1], .box [.v (.s 124)])]⟩ (.s .n (.s (.j ⟨[1,2],[],[[2]],[([1], .box [.v (.s 124)])]⟩ .n .n) .n)) .n)) [.s 124] [.s 124] (fun x=>Lg x.1) Tryz.func248 rfl (by kernel_rfl)
def Mm (a0:A6 (Int)):Option (AB):=
 (idx a0.l (0:Int)).bind fun e1=>
 some (⟨e1,0,(⟨a0.x1,a0.x2,a0.x3,a0.x4,a0.x5⟩:A5 (Int))⟩:AB)
def mZ (a0:A6 (Int)) (r:AB):Prop:=Ce Tryz.prog I0 249 [vA (xU (eI .i64)) a0] (· =vA Io r)
theorem jQ {a0:A6 (Int)} {r:AB} (h:Mm a0=some r):mZ a0 r:=by refine Ce.bo Aa Tryz.func249 rfl Tryz.ntmps249 [.cell 2 45] fun _ _ _ _=>?_;unfold Mm at h;refine Rg [.a,.a] (sl 12 [(1,vP [1] (0)),(2,vP [2] (0))] [bx [2] [Ab 0,Ab 0,Ab (((⟨0,0,0,0,0⟩:A5 (Int))).x0),Ab (((⟨0,0,0,0,0⟩:A5 (Int))).x1),Ab (((⟨0,0,0,0,0⟩:A5 (Int))).x2),Ab (((⟨0,0,0,0,0⟩:A5 (Int))).x3),Ab (((⟨0,0,0,0,0⟩:A5 (Int))).x4)],bx [1] (xU (eI .i64) a0)]) (aN) ?_;obtain⟨e1,i0,h⟩:=bS h;exact Gg [.a,(.v (vI e1)),.a,.a,.a] (uo [] [(3,vP [3] (0))] [.e (bx [3] [Ab e1,Ab 0,Ab (((⟨0,0,0,0,0⟩:A5 (Int))).x0),Ab (((⟨0,0,0,0,0⟩:A5 (Int))).x1),Ab (((⟨0,0,0,0,0⟩:A5 (Int))).x2),Ab (((⟨0,0,0,0,0⟩:A5 (Int))).x3),Ab (((⟨0,0,0,0,0⟩:A5 (Int))).x4)]),.k 0,.k 1]) (aC (OD i0)<|aC (ald i0 (Adb .i64) (xU (eI .i64) a0) 0 6 0 1 false (vI e1))<|aC (Eq.refl (vI e1))<|aC (And.intro (show True/\True from⟨trivial,trivial⟩) Aga)<|aN)<|hS<|Ag.avS [0,1,4,5,7,15,3] 15 [.a,.a,.a,(.e 0 [Ab e1,Ab 0,Ab (((⟨a0.x1,a0.x2,a0.x3,a0.x4,a0.x5⟩:A5 (Int))).x0),Ab (((⟨a0.x1,a0.x2,a0.x3,a0.x4,a0.x5⟩:A5 (Int))).x1),Ab (((⟨a0.x1,a0.x2,a0.x3,a0.x4,a0.x5⟩:A5 (Int))).x2),Ab (((⟨a0.x1,a0.x2,a0.x3,a0.x4,a0.x5⟩:A5 (Int))).x3),Ab (((⟨a0.x1,a0.x2,a0.x3,a0.x4,a0.x5⟩:A5 (Int))).x4)])] [[3],[2],[1]] (fun n=>⟨[.undef,vP [1] (0),vP [2] (0),vP [3] (0),.undef,.undef,.undef,cond (Nat.testBit n 0) (vP [3] (2)) (.undef),cond (Nat.testBit n 1) (.c (.bsl [3] 2 5)) (.undef),cond (Nat.testBit n 2) (.c (.bsl [1] 1 5)) (.undef),cond (Nat.testBit n 3) (vI 5) (.undef),.undef],List.filterMap id [cond (Nat.testBit n 3) (some (bx [3] [Ab e1,Ab 0,Ab (((⟨a0.x1,a0.x2,a0.x3,a0.x4,a0.x5⟩:A5 (Int))).x0),Ab (((⟨a0.x1,a0.x2,a0.x3,a0.x4,a0.x5⟩:A5 (Int))).x1),Ab (((⟨a0.x1,a0.x2,a0.x3,a0.x4,a0.x5⟩:A5 (Int))).x2),Ab (((⟨a0.x1,a0.x2,a0.x3,a0.x4,a0.x5⟩:A5 (Int))).x3),Ab (((⟨a0.x1,a0.x2,a0.x3,a0.x4,a0.x5⟩:A5 (Int))).x4)])) (some (bx [3] [Ab e1,Ab 0,Ab (((⟨0,0,0,0,0⟩:A5 (Int))).x0),Ab (((⟨0,0,0,0,0⟩:A5 (Int))).x1),Ab (((⟨0,0,0,0,0⟩:A5 (Int))).x2),Ab (((⟨0,0,0,0,0⟩:A5 (Int))).x3),Ab (((⟨0,0,0,0,0⟩:A5 (Int))).x4)])),some (bx [2] [Ab 0,Ab 0,Ab (((⟨0,0,0,0,0⟩:A5 (Int))).x0),Ab (((⟨0,0,0,0,0⟩:A5 (Int))).x1),Ab (((⟨0,0,0,0,0⟩:A5 (Int))).x2),Ab (((⟨0,0,0,0,0⟩:A5 (Int))).x3),Ab (((⟨0,0,0,0,0⟩:A5 (Int))).x4)]),some (bx [1] (xU (eI .i64) a0))],[],[]⟩) [[],[0<=(0:Int)/\(0:Int)<((5:Nat):Int)/\(0:Int)<=((5:Nat):Int)/\((5:Nat):Int)<=((5:Nat):Int)],[0<=(1:Int)/\(1:Int)<((6:Nat):Int)/\(1:Int)<=((6:Nat):Int)/\((6:Nat):Int)<=((6:Nat):Int)],[[Ab e1,Ab 0,Ab (((⟨0,0,0,0,0⟩:A5 (Int))).x0),Ab (((⟨0,0,0,0,0⟩:A5 (Int))).x1),Ab (((⟨0,0,0,0,0⟩:A5 (Int))).x2),Ab (((⟨0,0,0,0,0⟩:A5 (Int))).x3),Ab (((⟨0,0,0,0,0⟩:A5 (Int))).x4)].take 2++((xU (eI .i64) a0).drop 1).take 5++[Ab e1,Ab 0,Ab (((⟨0,0,0,0,0⟩:A5 (Int))).x0),Ab (((⟨0,0,0,0,0⟩:A5 (Int))).x1),Ab (((⟨0,0,0,0,0⟩:A5 (Int))).x2),Ab (((⟨0,0,0,0,0⟩:A5 (Int))).x3),Ab (((⟨0,0,0,0,0⟩:A5 (Int))).x4)].drop (2+(((xU (eI .i64) a0).drop 1).take 5).length)=[Ab e1,Ab 0,Ab (((⟨a0.x1,a0.x2,a0.x3,a0.x4,a0.x5⟩:A5 (Int))).x0),Ab (((⟨a0.x1,a0.x2,a0.x3,a0.x4,a0.x5⟩:A5 (Int))).x1),Ab (((⟨a0.x1,a0.x2,a0.x3,a0.x4,a0.x5⟩:A5 (Int))).x2),Ab (((⟨a0.x1,a0.x2,a0.x3,a0.x4,a0.x5⟩:A5 (Int))).x3),Ab (((⟨a0.x1,a0.x2,a0.x3,a0.x4,a0.x5⟩:A5 (Int))).x4)],((none:Option (TypeId×Nat×Nat))=none)/\True]] Ac (by kernel_rfl) (by kernel_rfl) (by decide) (Cn.t (by kernel_rfl)) (by kernel_rfl) ⟨trivial,⟨(by decide),trivial⟩,⟨(by decide),trivial⟩,⟨(by kernel_rfl),⟨rfl,trivial⟩,trivial⟩,trivial⟩<|Tn<|Gs (uo [1,7,8,9,10] [] [.k 0,.k 1])<|Gg [.a,.a] (uo [3] [] [.e (bx [2] [Ab e1,Ab 0,Ab (((⟨a0.x1,a0.x2,a0.x3,a0.x4,a0.x5⟩:A5 (Int))).x0),Ab (((⟨a0.x1,a0.x2,a0.x3,a0.x4,a0.x5⟩:A5 (Int))).x1),Ab (((⟨a0.x1,a0.x2,a0.x3,a0.x4,a0.x5⟩:A5 (Int))).x2),Ab (((⟨a0.x1,a0.x2,a0.x3,a0.x4,a0.x5⟩:A5 (Int))).x3),Ab (((⟨a0.x1,a0.x2,a0.x3,a0.x4,a0.x5⟩:A5 (Int))).x4)])]) (aN)<|hR<|bE (.agg [Ab e1,Ab 0,Ab (((⟨a0.x1,a0.x2,a0.x3,a0.x4,a0.x5⟩:A5 (Int))).x0),Ab (((⟨a0.x1,a0.x2,a0.x3,a0.x4,a0.x5⟩:A5 (Int))).x1),Ab (((⟨a0.x1,a0.x2,a0.x3,a0.x4,a0.x5⟩:A5 (Int))).x2),Ab (((⟨a0.x1,a0.x2,a0.x3,a0.x4,a0.x5⟩:A5 (Int))).x3),Ab (((⟨a0.x1,a0.x2,a0.x3,a0.x4,a0.x5⟩:A5 (Int))).x4)]) (.agg (Io (⟨e1,0,(⟨a0.x1,a0.x2,a0.x3,a0.x4,a0.x5⟩:A5 (Int))⟩:AB))) (congrArg (vA Io) (sI h))def ajx:CE TE Tryz.prog I0:=⟨249,[.s 57],[.s 45],fun x=>Mm x.1,fun x r h=>Mc (by kernel_rfl) (jQ (r:=r) h),[],fun h=>absurd rfl h,none,(fun _ h=>nomatch h),none,(fun _ _ h=>nomatch h)⟩
def FC (amh:Bool):Option (Bool×Bool):=
 some (amh,true)
def FD (K_:(Bool)->Option (Bool×Bool)) (asc:Bool):Option (Bool×Bool):=
 (if asc then
  K_ false
 else
  some (true,false))
def DJ (a0:Int):Option (Bool×Bool):=
 jn (fun(v:Bool)=>FC v) (fun K_=>
 (if a0==9 then
  K_ true
 else
  jn (fun(v:Bool)=>FD K_ v) (fun jJ5=>
  (if a0==1 then
   jJ5 (a0==1)
  else
   (if a0==2 then
    jJ5 (a0==2)
   else
    (if a0==3 then
     jJ5 (a0==3)
    else
     (if a0==4 then
      jJ5 (a0==4)
     else
      (if a0==5 then
       jJ5 (a0==5)
      else
       (if a0==6 then
        jJ5 (a0==6)
       else
        (if a0==7 then
         jJ5 (a0==7)
        else
         jJ5 (a0==14)))))))))))
def br:CE TE Tryz.prog I0:=AA [] Aa Ac 9 193 Tryz.f193 (Tryz.f193.body.getD .skip) (.s .n (.s .n (.s (.s .n (.j ⟨[],[(4, .c (.v (.k (.bool))))],[],[]⟩ (.s (.s (.s .n (.j ⟨[4],[(8, .c (.v (.k (.bool))))],[],[]⟩ .n .n)) .n) .n) .n)) .n))) [.k (.int .i64)] [.k (.bool), .k (.bool)] (fun x=>DJ x.1) Tryz.func193 rfl (by kernel_rfl)
def DQ (a0:Int):Option ((List UInt8)):=
 (if a0==0 then
  some YN
 else
  (if a0==1 then
   some sQ
  else
   (if a0==2 then
    some QF
   else
    some ([]:List UInt8))))
def TI:CE TE Tryz.prog I0:=AA [] Aa Ac 9 194 Tryz.f194 (Tryz.f194.body.getD .skip) .n [.k (.int .i64)] [.k (.str)] (fun x=>DQ x.1) Tryz.func194 rfl (by kernel_rfl)
def RD (a0:AO):Option (Bool):=
 some ((Fk .i64 a0.aci.Types (6:Int)) != (0:Int))
def jR:CE TE Tryz.prog I0:=AA [] Aa Ac 9 105 Tryz.f105 (Tryz.f105.body.getD .skip) .n [.s 51] [.k (.bool)] (fun x=>RD x.1) Tryz.func105 rfl (by kernel_rfl)
def Lz (a0:AO):Option (Bool):=
 (some (if a0.Token then true else(Fk .i64 a0.aci.Types (32:Int)) != (0:Int))).bind fun b1=>
 some b1
def XB:CE TE Tryz.prog I0:=AA [] Aa Ac 9 106 Tryz.f106 (Tryz.f106.body.getD .skip) .n [.s 51] [.k (.bool)] (fun x=>Lz x.1) Tryz.func106 rfl (by kernel_rfl)
def N0 (ac3:Int):Option (Int):=
 some ac3
def N1 (K_:(Int)->Option (Int)):Option (Int):=
 K_ (-1:Int)
def C4 (a0:List (AO)) (a1:List UInt8) (ae7:Int):Option ((Int)⊕(Unit⊕Int)):=
 (if(decide (ae7<(a0.length:Int))) then
  (idx a0 ae7).bind fun e9=>
  (if e9.Name==a1 then
   some (.inr (.inr ae7))
  else
   some (.inl (Ad (ae7+1))))
 else
  some (.inr (.inl ())))
def Jf (a0:List (AO)) (a1:List UInt8):Option (Int):=
 jn (fun(v:Int)=>N0 v) (fun K_=>
 jn (fun(v:Unit)=>N1 K_) (fun jJ3=>
 (iter (fun(v:Int)=>C4 a0 a1 v) FU (0:Int)).bind (Sum.elim (fun o0=>jJ3 ()) (fun o1=>K_ o1))))
def bt:CE TE Tryz.prog I0:=AA [] Aa Ac 9 70 Tryz.f70 (Tryz.f70.body.getD .skip) (.s .n (.s (.r [] [] (.j 2 ⟨[],[(7, .c (.v (.k (.int .i64))))],[],[]⟩ (.s .n (.j ⟨[],[],[[3]],[]⟩ (.s .n (.l ⟨[0,1,7],[(8, .c (.v (.k (.int .i64))))],[[3]],[]⟩ [(1,⟨[],[],[[3]],[]⟩),(0,⟨[],[(4, .c (.v (.k (.int .i64))))],[[3]],[]⟩)] (.s .n (.s .n (.s (.s .n (.s (.r [] [] (.c 5 .n .n)) .n)) .n))))) .n)) .n)) .n)) [.k (.u_ 51), .k (.str)] [.k (.int .i64)] (fun x=>Jf x.1 x.2.1) Tryz.func70 rfl (by kernel_rfl)
def Mn:Option (Bool):=
 some false
def Mo (agI:Int):Option ((Int)⊕(Unit⊕Bool)):=
 some (.inl (Ad (agI+1)))
def B7 (afd:Int) (e14:Av) (aoV:Int):Option ((Int)⊕(Unit⊕Bool)):=
 (some (if e14.Op==12 then !(decide (0<=aoV))else false)).bind fun b17=>
 (if b17 then
  some (.inr (.inr true))
 else
  some (.inl (Ad (afd+1))))
def Lh (adW:(Int)->Option ((Int)⊕(Unit⊕Bool))):Option ((Int)⊕(Unit⊕Bool)):=
 adW (-1:Int)
def B8 (a0:List (AO)) (e14:Av) (agA:Int):Option ((Int)⊕(Unit⊕Int)):=
 (if(decide (agA<(a0.length:Int))) then
  (idx a0 agA).bind fun e25=>
  (some (if e25.Name==e14.ab1 then e25.Token else false)).bind fun b26=>
  (if b26 then
   some (.inr (.inr agA))
  else
   some (.inl (Ad (agA+1))))
 else
  some (.inr (.inl ())))
def Cx (a0:List (AO)) (e8:AE) (afd:Int):Option ((Int)⊕(Unit⊕Bool)):=
 (if(decide (afd<(e8.f_.length:Int))) then
  (idx e8.f_ afd).bind fun e14=>
  jn (fun(v:Int)=>B7 afd e14 v) (fun adW=>
  jn (fun(v:Unit)=>Lh adW) (fun adV=>
  (iter (fun(v:Int)=>B8 a0 e14 v) FU (0:Int)).bind (Sum.elim (fun o0=>adV ()) (fun o1=>adW o1))))
 else
  some (.inr (.inl ())))
def CN (a0:List (AO)) (a1:AO) (agI:Int):Option ((Int)⊕(Unit⊕Bool)):=
 (if(decide (agI<(a1.g_.length:Int))) then
  jn (fun(v:Unit)=>Mo agI) (fun jJ7=>
  (idx a1.g_ agI).bind fun e8=>
  (iter (fun(v:Int)=>Cx a0 e8 v) FU (0:Int)).bind (Sum.elim (fun o0=>jJ7 ()) (fun o1=>some (.inr (.inr o1)))))
 else
  some (.inr (.inl ())))
def HU (a0:List (AO)) (a1:AO):Option (Bool):=
 jn (fun(v:Unit)=>Mn) (fun jJ1=>
 (iter (fun(v:Int)=>CN a0 a1 v) FU (0:Int)).bind (Sum.elim (fun o0=>jJ1 ()) (fun o1=>some o1)))
def XC:CE TE Tryz.prog I0:=AA [] Aa Ac 9 71 Tryz.f71 (Tryz.f71.body.getD .skip) (.s .n (.j ⟨[],[],[],[]⟩ (.s .n (.l ⟨[0,11,12],[(13, .c (.v (.k (.int .i64))))],[],[]⟩ [(1,⟨[],[],[],[]⟩),(0,⟨[],[(4, .c (.v (.k (.bool))))],[],[]⟩)] (.s .n (.s .n (.j ⟨[0,11,12,13],[],[],[]⟩ (.s .n (.s .n (.l ⟨[0,11,12,13,18,19],[(20, .c (.v (.k (.int .i64))))],[],[]⟩ [(3,⟨[0,11,12,13],[],[],[]⟩),(0,⟨[],[(4, .c (.v (.k (.bool))))],[],[]⟩)] (.s .n (.s .n (.s (.s .n (.s (.r [] [] (.c 2 (.s .n (.s (.r [] [] (.j 2 ⟨[],[(7, .c (.v (.k (.int .i64))))],[[8]],[]⟩ (.s .n (.j ⟨[],[],[[8]],[]⟩ (.s .n (.l ⟨[0,1,7],[(8, .c (.v (.k (.int .i64))))],[[8]],[]⟩ [(1,⟨[],[],[[8]],[]⟩),(0,⟨[],[(4, .c (.v (.k (.int .i64))))],[[8]],[]⟩)] (.s .n (.s .n (.s (.s .n (.s (.r [] [] (.c 5 .n .n)) .n)) .n))))) .n)) .n)) .n)) .n)) .n)) .n)))))) .n))))) .n)) [.k (.u_ 51), .s 51] [.k (.bool)] (fun x=>HU x.1 x.2.1) Tryz.func71 rfl (by kernel_rfl)
def dH (acV:Int) (ab3:List (Ay)) (anh:Int) (akx:Int) (ani:Int) (akw:Bool) (ahH:Int) (ajd:Int) (aje:Int) (ahc:Int) (alV:Int) (alW:Int) (ajc:Int):Option (Ao):=
 (n_ (acV=((ab3.length:Nat):Int))).bind fun _=>
 some (⟨ab3,([]:List (Ar)),([]:List (Int)),([]:List (Int)),([]:List (Bd)),([]:List (AK)),([]:List (Cm)),anh,akx,ani,akw,ahH,ajd,aje,ahc,alV,([]:List (Int)),alW,ajc⟩:Ao)
def jS (a0:Int) (a1:Int) (a2:Int) (acV:Int) (ab3:List (Ay)):Option (Ao):=
 jn (fun(v:Int×Int×Int×Bool×Int×Int×Int×Int×Int×Int×Int)=>dH acV ab3 v.1 v.2.1 v.2.2.1 v.2.2.2.1 v.2.2.2.2.1 v.2.2.2.2.2.1 v.2.2.2.2.2.2.1 v.2.2.2.2.2.2.2.1 v.2.2.2.2.2.2.2.2.1 v.2.2.2.2.2.2.2.2.2.1 v.2.2.2.2.2.2.2.2.2.2) (fun ahv=>
 (some (if decide (0<a1) then decide (a1<(if 4<(if a0<2 then(2:Int)else a0)then(4:Int)else(if a0<2 then(2:Int)else a0)))else false)).bind fun b19=>
 (if b19 then
  ahv ((0:Int),a1,(0:Int),false,a1,(0:Int),(1:Int),(1:Int),a2,(0:Int),(-1:Int))
 else
  ahv ((0:Int),(0:Int),(0:Int),false,(0:Int),(0:Int),(1:Int),(1:Int),a2,(0:Int),(-1:Int))))
def dJ (l2:List (Ay)) (afc:Int) (adQ:Int) (abC:List (Ay)):Option ((Int×Int×(List (Ay)))⊕((Int×(List (Ay))))):=
 (if(decide (afc<(l2.length:Int))) then
  (idx abC afc).bind fun e32=>
  (idx abC afc).bind fun e33=>
  (some (abC.set (afc).toNat ({e33 with acL:=(20:Int)}))).bind fun l34=>
  some (.inl ((Ad (afc+1)),adQ,l34))
 else
  some (.inr (adQ,abC)))
def VC (a0:Int) (a1:Int) (a2:Int):Option (Ao):=
 (n_ (0<=(if 4<(if a0<2 then(2:Int)else a0)then(4:Int)else(if a0<2 then(2:Int)else a0))/\(if 4<(if a0<2 then(2:Int)else a0)then(4:Int)else(if a0<2 then(2:Int)else a0))<=(if 4<(if a0<2 then(2:Int)else a0)then(4:Int)else(if a0<2 then(2:Int)else a0))/\(if 4<(if a0<2 then(2:Int)else a0)then(4:Int)else(if a0<2 then(2:Int)else a0))*152<=140737488355328/\(if 4<(if a0<2 then(2:Int)else a0)then(4:Int)else(if a0<2 then(2:Int)else a0))<=maxLen)).bind fun u1=>
 (some (List.replicate ((if 4<(if a0<2 then(2:Int)else a0)then(4:Int)else(if a0<2 then(2:Int)else a0))).toNat (⟨0,0,0,(⟨0,0,0,0,0,0⟩:A6 (Int)),false,false,([]:List (Int)),([]:List (Int)),([]:List (Int))⟩:Ay))).bind fun l2=>
 (n_ (0<l2.length)).bind fun u3=>
 jn (fun(v:Int×(List (Ay)))=>jS a0 a1 a2 v.1 v.2) (fun jJ6=>
 (iter (fun(v:Int×Int×(List (Ay)))=>dJ l2 v.1 v.2.1 v.2.2) FU ((0:Int),((l2.length:Nat):Int),l2)).bind (fun o0=>jJ6 (o0.1,o0.2)))
def m6:CE TE Tryz.prog I0:=xN [] Aa Ac 9 15 Tryz.f15 (Tryz.f15.body.getD .skip) (.s .n (.s .n (.s (.r [] [([8],1,[1001,8],66)] (.q 1 .mk .n)) (.j ⟨[1,6,7,8],[],[[6],[8],[1001,8]],[([1000003,14], .deep 59)]⟩ (.s .n (.l ⟨[1,6,7,8,19],[(20, .c (.v (.k (.int .i64))))],[[6],[8],[1001,8]],[([1000003,14], .deep 59)]⟩ [(1,⟨[1,6,7,8],[],[[6],[8],[1001,8]],[([1000003,14], .deep 59)]⟩)] (.s .n (.s .n (.s (.s .n (.r [] [] (.q 5 .au .n))) .n))))) (.j ⟨[6,8],[],[[6],[1001,8],[1000003,14]],[([8], .box [.c (.h_ [1000003,14]), .c (.h_ [1001,8]), .c (.L_), .c (.L_), .c (.L_), .c (.L_), .c (.L_), .v (.k (.int .i64)), .v (.k (.int .i64)), .v (.k (.int .i64)), .v (.k (.bool)), .v (.k (.int .i64)), .v (.k (.int .i64)), .v (.k (.int .i64)), .v (.k (.int .i64)), .v (.k (.int .u64)), .c (.L_), .v (.k (.int .i64)), .v (.k (.int .i64))])]⟩ .n .n))))) [[2,1,0,0,0,0,0,0,0,0,0,0,0,0,0,0,0,0,0]] [.k (.int .i64), .k (.int .i64), .k (.int .u64)] [.s 36] (fun x=>VC x.1 x.2.1 x.2.2.1) Tryz.func15 rfl (by kernel_rfl)
def Az (a0:List (Int)):Option (List (Int)):=if a0.length*8<=140737488355328/\a0.length<=maxLen then some a0 else none
theorem LA {a0 r:List (Int)} (h:Az a0=some r):BZ Tryz.prog I0 35 [vL (eI .i64) a0] 3 1 (fun len cs=>len=r.length/\cs=r.flatMap (eI .i64)):=by
 refine BZ.of (t:=2) (m:=8) Aa (by kernel_rfl) Tryz.func35 rfl rfl Tryz.ntmps35 ?_;intro w0 av old gv;unfold Az at h;split at h
 ·rename_i hb;injection h with h;subst h;refine Rg [.a] (sl 8 [(0,vL (eI .i64) a0)] []) (aN) ?_;refine Ag.seq ?_;refine Ag.seq ?_;refine Ag.region ?_;refine Rp 1 [.a] (sl 8 [(0,vL (eI .i64) a0),(3,vL (eI .i64) a0)] []) (aN) ?_;refine Run.inl rfl rfl (DW.ahs (len:=a0.length) (cs:=a0.flatMap (eI .i64)) rfl (fun b hbn=>?_));refine Rw [] (sl 8 [(0,vL (eI .i64) a0),(3,vL (eI .i64) a0),(4,vB b)] []) (aN) ?_;refine Tn ?_;refine Ag.ifB b (by kernel_rfl) (fun hb1=>?_) (fun hb1=>?_)
  ·have h0:a0=[]:=length_eq_zero_iff.1 (hbn hb1);refine Rg [.a] (sl 8 [(2, .c (.h_ [2]))] [I8 [2] 3 1 (eI .i64) ([]:List (Int))]) (aN) ?_;refine Ag.ret ?_;refine Tr ?_;exact⟨.inr rfl, .inl ⟨[2],I8 [2] 3 1 (eI .i64) ([]:List (Int)),0,by kernel_rfl,by kernel_rfl,by kernel_rfl,by kernel_rfl,by rw [h0];exact⟨rfl,rfl⟩⟩⟩
  ·refine Ag.skip ?_;refine Tn ?_;have hr:app 8 ([]:List (Int)) a0=some a0:=by unfold app;rw [if_pos ⟨by simpa using hb.1,by simpa using hb.2⟩];rfl
   refine Rg [.a, .a,(.e a0.length (a0.flatMap (eI .i64))), .a] (sl 8 [(2, .c (.h_ [5]))] [I8 [5] 3 1 (eI .i64) a0]) (aC (show (a0.flatMap (eI .i64)).length =a0.length*1 from BP (enc:=eI .i64) (n:=1) (Adb .i64) _)<|aC (vw hr (eI .i64))<|aC (LT hr)<|aN) ?_;refine Ag.ret ?_;exact⟨.inr rfl, .inl ⟨[5],I8 [5] 3 1 (eI .i64) a0,a0.length,by kernel_rfl,by kernel_rfl,by kernel_rfl,AX _ (fun _=>rfl) _,⟨rfl,rfl⟩⟩⟩
 ·cases h
def BF:CE TE Tryz.prog I0:=a6 35 [.k (.u_ 3)] 3 (fun x=>Az x.1) (fun x r h=>Mc (by kernel_rfl) (LA (r:=r) h))
def VD (a0:Int):Option (Int×Int):=
 some (R4 .u64 (IntKind.u64.wrap ((R4 .u64 (IntKind.u64.wrap ((R4 .u64 (IntKind.u64.wrap (a0+11400714819323198485)) (Int.fdiv (IntKind.u64.wrap (a0+11400714819323198485)) (2 ^ (min ((30:Int)).toNat (IntKind.u64).bits))))*(13787848793156543929:Int))) (Int.fdiv (IntKind.u64.wrap ((R4 .u64 (IntKind.u64.wrap (a0+11400714819323198485)) (Int.fdiv (IntKind.u64.wrap (a0+11400714819323198485)) (2 ^ (min ((30:Int)).toNat (IntKind.u64).bits))))*(13787848793156543929:Int))) (2 ^ (min ((27:Int)).toNat (IntKind.u64).bits))))*(10723151780598845931:Int))) (Int.fdiv (IntKind.u64.wrap ((R4 .u64 (IntKind.u64.wrap ((R4 .u64 (IntKind.u64.wrap (a0+11400714819323198485)) (Int.fdiv (IntKind.u64.wrap (a0+11400714819323198485)) (2 ^ (min ((30:Int)).toNat (IntKind.u64).bits))))*(13787848793156543929:Int))) (Int.fdiv (IntKind.u64.wrap ((R4 .u64 (IntKind.u64.wrap (a0+11400714819323198485)) (Int.fdiv (IntKind.u64.wrap (a0+11400714819323198485)) (2 ^ (min ((30:Int)).toNat (IntKind.u64).bits))))*(13787848793156543929:Int))) (2 ^ (min ((27:Int)).toNat (IntKind.u64).bits))))*(10723151780598845931:Int))) (2 ^ (min ((31:Int)).toNat (IntKind.u64).bits))),IntKind.u64.wrap (a0+11400714819323198485))
def m7:CE TE Tryz.prog I0:=AA [] Aa Ac 9 72 Tryz.f72 (Tryz.f72.body.getD .skip) .n [.k (.int .u64)] [.k (.int .u64), .k (.int .u64)] (fun x=>VD x.1) Tryz.func72 rfl (by kernel_rfl)
def RE (a0:Int) (a1:Int) (a2:Int) (a3:Int) (a4:Int):Option (Ar):=
 some (⟨a0,a1,a2,a2,a3,false,false,false,false,0,(⟨0,0,0⟩:A3 (Int)),a4,(-1:Int),(-1:Int),false,0,0⟩:Ar)
def TJ:CE TE Tryz.prog I0:=AA [] Aa Ac 9 17 Tryz.f17 (Tryz.f17.body.getD .skip) .n [.k (.int .i64), .k (.int .i64), .k (.int .i64), .k (.int .i64), .k (.int .i64)] [.s 66] (fun x=>RE x.1 x.2.1 x.2.2.1 x.2.2.2.1 x.2.2.2.2.1) Tryz.func17 rfl (by kernel_rfl)
def Ex (a0:List (Int)):Option (List (Int)):=if a0.length*8<=140737488355328/\a0.length<=maxLen then some a0 else none
theorem RF {a0 r:List (Int)} (h:Ex a0=some r):BZ Tryz.prog I0 33 [vL (eI .i64) a0] 3 1 (fun len cs=>len=r.length/\cs=r.flatMap (eI .i64)):=by
 refine BZ.of (t:=2) (m:=7) Aa (by kernel_rfl) Tryz.func33 rfl rfl Tryz.ntmps33 ?_;intro w0 av old gv;unfold Ex at h;split at h
 ·rename_i hb;injection h with h;subst h;refine Rg [.a] (sl 7 [(0,vL (eI .i64) a0)] []) (aN) ?_;have hr:app 8 ([]:List (Int)) a0=some a0:=by unfold app;rw [if_pos ⟨by simpa using hb.1,by simpa using hb.2⟩];rfl
  refine Ag.seq ?_;refine Ag.region ?_;refine Rp 1 [.a] (sl 7 [(0,vL (eI .i64) a0),(3,vL (eI .i64) a0)] []) (aN) ?_;refine Run.inl rfl rfl (DW.clip (len:=a0.length) (cs:=a0.flatMap (eI .i64)) 3 1 4 rfl rfl ?_);refine Rw [.a,(.e a0.length (a0.flatMap (eI .i64))), .a] (sl 7 [(0,vL (eI .i64) a0),(2, .c (.h_ [4])),(3,vL (eI .i64) a0),(5,vL (eI .i64) a0),(6, .c (.h_ [4]))] [I8 [4] 3 1 (eI .i64) a0]) (aC (show (a0.flatMap (eI .i64)).length =a0.length*1 from BP (enc:=eI .i64) (n:=1) (Adb .i64) _)<|aC (vw hr (eI .i64))<|aC (LT hr)<|aN) ?_;refine Tn ?_;refine Ag.ret ?_;exact⟨.inr rfl, .inl ⟨[4],I8 [4] 3 1 (eI .i64) a0,a0.length,by kernel_rfl,by kernel_rfl,by kernel_rfl,AX _ (fun _=>rfl) _,⟨rfl,rfl⟩⟩⟩
 ·cases h
def VE:CE TE Tryz.prog I0:=a6 33 [.k (.u_ 3)] 3 (fun x=>Ex x.1) (fun x r h=>Mc (by kernel_rfl) (RF (r:=r) h))
def Bp (a0:List (Ay)):Option (List (Ay)):=if a0.length*152<=140737488355328/\a0.length<=maxLen then some a0 else none
theorem Ey {a0 r:List (Ay)} (h:Bp a0=some r):BZ Tryz.prog I0 50 [vL (Bm) a0] 59 14 (fun len cs=>len=r.length/\cs=r.flatMap (Bm)):=by
 refine BZ.of (t:=2) (m:=8) Aa (by kernel_rfl) Tryz.func50 rfl rfl Tryz.ntmps50 ?_;intro w0 av old gv;unfold Bp at h;split at h
 ·rename_i hb;injection h with h;subst h;refine Rg [.a] (sl 8 [(0,vL (Bm) a0)] []) (aN) ?_;refine Ag.seq ?_;refine Ag.seq ?_;refine Ag.region ?_;refine Rp 1 [.a] (sl 8 [(0,vL (Bm) a0),(3,vL (Bm) a0)] []) (aN) ?_;refine Run.inl rfl rfl (DW.ahs (len:=a0.length) (cs:=a0.flatMap (Bm)) rfl (fun b hbn=>?_));refine Rw [] (sl 8 [(0,vL (Bm) a0),(3,vL (Bm) a0),(4,vB b)] []) (aN) ?_;refine Tn ?_;refine Ag.ifB b (by kernel_rfl) (fun hb1=>?_) (fun hb1=>?_)
  ·have h0:a0=[]:=length_eq_zero_iff.1 (hbn hb1);refine Rg [.a] (sl 8 [(2, .c (.h_ [2]))] [I8 [2] 59 14 (Bm) ([]:List (Ay))]) (aN) ?_;refine Ag.ret ?_;refine Tr ?_;exact⟨.inr rfl, .inl ⟨[2],I8 [2] 59 14 (Bm) ([]:List (Ay)),0,by kernel_rfl,by kernel_rfl,by kernel_rfl,by kernel_rfl,by rw [h0];exact⟨rfl,rfl⟩⟩⟩
  ·refine Ag.skip ?_;refine Tn ?_;have hr:app 152 ([]:List (Ay)) a0=some a0:=by unfold app;rw [if_pos ⟨by simpa using hb.1,by simpa using hb.2⟩];rfl
   refine Rg [.a, .a,(.e a0.length (a0.flatMap (Bm))), .a] (sl 8 [(2, .c (.h_ [5]))] [I8 [5] 59 14 (Bm) a0]) (aC (show (a0.flatMap (Bm)).length =a0.length*14 from BP (enc:=Bm) (n:=14) qq _)<|aC (vw hr (Bm))<|aC (LT hr)<|aN) ?_;refine Ag.ret ?_;exact⟨.inr rfl, .inl ⟨[5],I8 [5] 59 14 (Bm) a0,a0.length,by kernel_rfl,by kernel_rfl,by kernel_rfl,AX _ (fun _=>rfl) _,⟨rfl,rfl⟩⟩⟩
 ·cases h
def Ff:CE TE Tryz.prog I0:=a6 50 [.k (.u_ 59)] 59 (fun x=>Bp x.1) (fun x r h=>Mc (by kernel_rfl) (Ey (r:=r) h))
def Bq (a0:List (Ar)):Option (List (Ar)):=if a0.length*128<=140737488355328/\a0.length<=maxLen then some a0 else none
theorem Ez {a0 r:List (Ar)} (h:Bq a0=some r):BZ Tryz.prog I0 52 [vL (Bn) a0] 66 19 (fun len cs=>len=r.length/\cs=r.flatMap (Bn)):=by
 refine BZ.of (t:=2) (m:=8) Aa (by kernel_rfl) Tryz.func52 rfl rfl Tryz.ntmps52 ?_;intro w0 av old gv;unfold Bq at h;split at h
 ·rename_i hb;injection h with h;subst h;refine Rg [.a] (sl 8 [(0,vL (Bn) a0)] []) (aN) ?_;refine Ag.seq ?_;refine Ag.seq ?_;refine Ag.region ?_;refine Rp 1 [.a] (sl 8 [(0,vL (Bn) a0),(3,vL (Bn) a0)] []) (aN) ?_;refine Run.inl rfl rfl (DW.ahs (len:=a0.length) (cs:=a0.flatMap (Bn)) rfl (fun b hbn=>?_));refine Rw [] (sl 8 [(0,vL (Bn) a0),(3,vL (Bn) a0),(4,vB b)] []) (aN) ?_;refine Tn ?_;refine Ag.ifB b (by kernel_rfl) (fun hb1=>?_) (fun hb1=>?_)
  ·have h0:a0=[]:=length_eq_zero_iff.1 (hbn hb1);refine Rg [.a] (sl 8 [(2, .c (.h_ [2]))] [I8 [2] 66 19 (Bn) ([]:List (Ar))]) (aN) ?_;refine Ag.ret ?_;refine Tr ?_;exact⟨.inr rfl, .inl ⟨[2],I8 [2] 66 19 (Bn) ([]:List (Ar)),0,by kernel_rfl,by kernel_rfl,by kernel_rfl,by kernel_rfl,by rw [h0];exact⟨rfl,rfl⟩⟩⟩
  ·refine Ag.skip ?_;refine Tn ?_;have hr:app 128 ([]:List (Ar)) a0=some a0:=by unfold app;rw [if_pos ⟨by simpa using hb.1,by simpa using hb.2⟩];rfl
   refine Rg [.a, .a,(.e a0.length (a0.flatMap (Bn))), .a] (sl 8 [(2, .c (.h_ [5]))] [I8 [5] 66 19 (Bn) a0]) (aC (show (a0.flatMap (Bn)).length =a0.length*19 from BP (enc:=Bn) (n:=19) qr _)<|aC (vw hr (Bn))<|aC (LT hr)<|aN) ?_;refine Ag.ret ?_;exact⟨.inr rfl, .inl ⟨[5],I8 [5] 66 19 (Bn) a0,a0.length,by kernel_rfl,by kernel_rfl,by kernel_rfl,AX _ (fun _=>rfl) _,⟨rfl,rfl⟩⟩⟩
 ·cases h
def Fg:CE TE Tryz.prog I0:=a6 52 [.k (.u_ 66)] 66 (fun x=>Bq x.1) (fun x r h=>Mc (by kernel_rfl) (Ez (r:=r) h))
def BG (a0:List (Bd)):Option (List (Bd)):=if a0.length*824<=140737488355328/\a0.length<=maxLen then some a0 else none
theorem FP {a0 r:List (Bd)} (h:BG a0=some r):BZ Tryz.prog I0 53 [vL (B4) a0] 109 94 (fun len cs=>len=r.length/\cs=r.flatMap (B4)):=by
 refine BZ.of (t:=2) (m:=8) Aa (by kernel_rfl) Tryz.func53 rfl rfl Tryz.ntmps53 ?_;intro w0 av old gv;unfold BG at h;split at h
 ·rename_i hb;injection h with h;subst h;refine Rg [.a] (sl 8 [(0,vL (B4) a0)] []) (aN) ?_;refine Ag.seq ?_;refine Ag.seq ?_;refine Ag.region ?_;refine Rp 1 [.a] (sl 8 [(0,vL (B4) a0),(3,vL (B4) a0)] []) (aN) ?_;refine Run.inl rfl rfl (DW.ahs (len:=a0.length) (cs:=a0.flatMap (B4)) rfl (fun b hbn=>?_));refine Rw [] (sl 8 [(0,vL (B4) a0),(3,vL (B4) a0),(4,vB b)] []) (aN) ?_;refine Tn ?_;refine Ag.ifB b (by kernel_rfl) (fun hb1=>?_) (fun hb1=>?_)
  ·have h0:a0=[]:=length_eq_zero_iff.1 (hbn hb1);refine Rg [.a] (sl 8 [(2, .c (.h_ [2]))] [I8 [2] 109 94 (B4) ([]:List (Bd))]) (aN) ?_;refine Ag.ret ?_;refine Tr ?_;exact⟨.inr rfl, .inl ⟨[2],I8 [2] 109 94 (B4) ([]:List (Bd)),0,by kernel_rfl,by kernel_rfl,by kernel_rfl,by kernel_rfl,by rw [h0];exact⟨rfl,rfl⟩⟩⟩
  ·refine Ag.skip ?_;refine Tn ?_;have hr:app 824 ([]:List (Bd)) a0=some a0:=by unfold app;rw [if_pos ⟨by simpa using hb.1,by simpa using hb.2⟩];rfl
   refine Rg [.a, .a,(.e a0.length (a0.flatMap (B4))), .a] (sl 8 [(2, .c (.h_ [5]))] [I8 [5] 109 94 (B4) a0]) (aC (show (a0.flatMap (B4)).length =a0.length*94 from BP (enc:=B4) (n:=94) xW _)<|aC (vw hr (B4))<|aC (LT hr)<|aN) ?_;refine Ag.ret ?_;exact⟨.inr rfl, .inl ⟨[5],I8 [5] 109 94 (B4) a0,a0.length,by kernel_rfl,by kernel_rfl,by kernel_rfl,AX _ (fun _=>rfl) _,⟨rfl,rfl⟩⟩⟩
 ·cases h
def GO:CE TE Tryz.prog I0:=a6 53 [.k (.u_ 109)] 109 (fun x=>BG x.1) (fun x r h=>Mc (by kernel_rfl) (FP (r:=r) h))
def A9 (a0:List (A1)):Option (List (A1)):=if a0.length*176<=140737488355328/\a0.length<=maxLen then some a0 else none
theorem GP {a0 r:List (A1)} (h:A9 a0=some r):BZ Tryz.prog I0 58 [vL (BE) a0] 140 20 (fun len cs=>len=r.length/\cs=r.flatMap (BE)):=by
 refine BZ.of (t:=2) (m:=8) Aa (by kernel_rfl) Tryz.func58 rfl rfl Tryz.ntmps58 ?_;intro w0 av old gv;unfold A9 at h;split at h
 ·rename_i hb;injection h with h;subst h;refine Rg [.a] (sl 8 [(0,vL (BE) a0)] []) (aN) ?_;refine Ag.seq ?_;refine Ag.seq ?_;refine Ag.region ?_;refine Rp 1 [.a] (sl 8 [(0,vL (BE) a0),(3,vL (BE) a0)] []) (aN) ?_;refine Run.inl rfl rfl (DW.ahs (len:=a0.length) (cs:=a0.flatMap (BE)) rfl (fun b hbn=>?_));refine Rw [] (sl 8 [(0,vL (BE) a0),(3,vL (BE) a0),(4,vB b)] []) (aN) ?_;refine Tn ?_;refine Ag.ifB b (by kernel_rfl) (fun hb1=>?_) (fun hb1=>?_)
  ·have h0:a0=[]:=length_eq_zero_iff.1 (hbn hb1);refine Rg [.a] (sl 8 [(2, .c (.h_ [2]))] [I8 [2] 140 20 (BE) ([]:List (A1))]) (aN) ?_;refine Ag.ret ?_;refine Tr ?_;exact⟨.inr rfl, .inl ⟨[2],I8 [2] 140 20 (BE) ([]:List (A1)),0,by kernel_rfl,by kernel_rfl,by kernel_rfl,by kernel_rfl,by rw [h0];exact⟨rfl,rfl⟩⟩⟩
  ·refine Ag.skip ?_;refine Tn ?_;have hr:app 176 ([]:List (A1)) a0=some a0:=by unfold app;rw [if_pos ⟨by simpa using hb.1,by simpa using hb.2⟩];rfl
   refine Rg [.a, .a,(.e a0.length (a0.flatMap (BE))), .a] (sl 8 [(2, .c (.h_ [5]))] [I8 [5] 140 20 (BE) a0]) (aC (show (a0.flatMap (BE)).length =a0.length*20 from BP (enc:=BE) (n:=20) AaS _)<|aC (vw hr (BE))<|aC (LT hr)<|aN) ?_;refine Ag.ret ?_;exact⟨.inr rfl, .inl ⟨[5],I8 [5] 140 20 (BE) a0,a0.length,by kernel_rfl,by kernel_rfl,by kernel_rfl,AX _ (fun _=>rfl) _,⟨rfl,rfl⟩⟩⟩
 ·cases h
def Dv:CE TE Tryz.prog I0:=a6 58 [.k (.u_ 140)] 140 (fun x=>A9 x.1) (fun x r h=>Mc (by kernel_rfl) (GP (r:=r) h))
def BH (a0:List (Dc)):Option (List (Dc)):=if a0.length*144<=140737488355328/\a0.length<=maxLen then some a0 else none
theorem FQ {a0 r:List (Dc)} (h:BH a0=some r):BZ Tryz.prog I0 86 [vL (BL) a0] 167 18 (fun len cs=>len=r.length/\cs=r.flatMap (BL)):=by
 refine BZ.of (t:=2) (m:=8) Aa (by kernel_rfl) Tryz.func86 rfl rfl Tryz.ntmps86 ?_;intro w0 av old gv;unfold BH at h;split at h
 ·rename_i hb;injection h with h;subst h;refine Rg [.a] (sl 8 [(0,vL (BL) a0)] []) (aN) ?_;refine Ag.seq ?_;refine Ag.seq ?_;refine Ag.region ?_;refine Rp 1 [.a] (sl 8 [(0,vL (BL) a0),(3,vL (BL) a0)] []) (aN) ?_;refine Run.inl rfl rfl (DW.ahs (len:=a0.length) (cs:=a0.flatMap (BL)) rfl (fun b hbn=>?_));refine Rw [] (sl 8 [(0,vL (BL) a0),(3,vL (BL) a0),(4,vB b)] []) (aN) ?_;refine Tn ?_;refine Ag.ifB b (by kernel_rfl) (fun hb1=>?_) (fun hb1=>?_)
  ·have h0:a0=[]:=length_eq_zero_iff.1 (hbn hb1);refine Rg [.a] (sl 8 [(2, .c (.h_ [2]))] [I8 [2] 167 18 (BL) ([]:List (Dc))]) (aN) ?_;refine Ag.ret ?_;refine Tr ?_;exact⟨.inr rfl, .inl ⟨[2],I8 [2] 167 18 (BL) ([]:List (Dc)),0,by kernel_rfl,by kernel_rfl,by kernel_rfl,by kernel_rfl,by rw [h0];exact⟨rfl,rfl⟩⟩⟩
  ·refine Ag.skip ?_;refine Tn ?_;have hr:app 144 ([]:List (Dc)) a0=some a0:=by unfold app;rw [if_pos ⟨by simpa using hb.1,by simpa using hb.2⟩];rfl
   refine Rg [.a, .a,(.e a0.length (a0.flatMap (BL))), .a] (sl 8 [(2, .c (.h_ [5]))] [I8 [5] 167 18 (BL) a0]) (aC (show (a0.flatMap (BL)).length =a0.length*18 from BP (enc:=BL) (n:=18) xV _)<|aC (vw hr (BL))<|aC (LT hr)<|aN) ?_;refine Ag.ret ?_;exact⟨.inr rfl, .inl ⟨[5],I8 [5] 167 18 (BL) a0,a0.length,by kernel_rfl,by kernel_rfl,by kernel_rfl,AX _ (fun _=>rfl) _,⟨rfl,rfl⟩⟩⟩
 ·cases h
def GQ:CE TE Tryz.prog I0:=a6 86 [.k (.u_ 167)] 167 (fun x=>BH x.1) (fun x r h=>Mc (by kernel_rfl) (FQ (r:=r) h))
def Br (a0:List (Av)):Option (List (Av)):=if a0.length*560<=140737488355328/\a0.length<=maxLen then some a0 else none
theorem EA {a0 r:List (Av)} (h:Br a0=some r):BZ Tryz.prog I0 87 [vL (A7) a0] 126 64 (fun len cs=>len=r.length/\cs=r.flatMap (A7)):=by
 refine BZ.of (t:=2) (m:=8) Aa (by kernel_rfl) Tryz.func87 rfl rfl Tryz.ntmps87 ?_;intro w0 av old gv;unfold Br at h;split at h
 ·rename_i hb;injection h with h;subst h;refine Rg [.a] (sl 8 [(0,vL (A7) a0)] []) (aN) ?_;refine Ag.seq ?_;refine Ag.seq ?_;refine Ag.region ?_;refine Rp 1 [.a] (sl 8 [(0,vL (A7) a0),(3,vL (A7) a0)] []) (aN) ?_;refine Run.inl rfl rfl (DW.ahs (len:=a0.length) (cs:=a0.flatMap (A7)) rfl (fun b hbn=>?_));refine Rw [] (sl 8 [(0,vL (A7) a0),(3,vL (A7) a0),(4,vB b)] []) (aN) ?_;refine Tn ?_;refine Ag.ifB b (by kernel_rfl) (fun hb1=>?_) (fun hb1=>?_)
  ·have h0:a0=[]:=length_eq_zero_iff.1 (hbn hb1);refine Rg [.a] (sl 8 [(2, .c (.h_ [2]))] [I8 [2] 126 64 (A7) ([]:List (Av))]) (aN) ?_;refine Ag.ret ?_;refine Tr ?_;exact⟨.inr rfl, .inl ⟨[2],I8 [2] 126 64 (A7) ([]:List (Av)),0,by kernel_rfl,by kernel_rfl,by kernel_rfl,by kernel_rfl,by rw [h0];exact⟨rfl,rfl⟩⟩⟩
  ·refine Ag.skip ?_;refine Tn ?_;have hr:app 560 ([]:List (Av)) a0=some a0:=by unfold app;rw [if_pos ⟨by simpa using hb.1,by simpa using hb.2⟩];rfl
   refine Rg [.a, .a,(.e a0.length (a0.flatMap (A7))), .a] (sl 8 [(2, .c (.h_ [5]))] [I8 [5] 126 64 (A7) a0]) (aC (show (a0.flatMap (A7)).length =a0.length*64 from BP (enc:=A7) (n:=64) qp _)<|aC (vw hr (A7))<|aC (LT hr)<|aN) ?_;refine Ag.ret ?_;exact⟨.inr rfl, .inl ⟨[5],I8 [5] 126 64 (A7) a0,a0.length,by kernel_rfl,by kernel_rfl,by kernel_rfl,AX _ (fun _=>rfl) _,⟨rfl,rfl⟩⟩⟩
 ·cases h
def Fh:CE TE Tryz.prog I0:=a6 87 [.k (.u_ 126)] 126 (fun x=>Br x.1) (fun x r h=>Mc (by kernel_rfl) (EA (r:=r) h))
def Bs (a0:List (EM)):Option (List (EM)):=if a0.length*16<=140737488355328/\a0.length<=maxLen then some a0 else none
theorem EB {a0 r:List (EM)} (h:Bs a0=some r):BZ Tryz.prog I0 55 [vL (Bo) a0] 135 2 (fun len cs=>len=r.length/\cs=r.flatMap (Bo)):=by
 refine BZ.of (t:=2) (m:=8) Aa (by kernel_rfl) Tryz.func55 rfl rfl Tryz.ntmps55 ?_;intro w0 av old gv;unfold Bs at h;split at h
 ·rename_i hb;injection h with h;subst h;refine Rg [.a] (sl 8 [(0,vL (Bo) a0)] []) (aN) ?_;refine Ag.seq ?_;refine Ag.seq ?_;refine Ag.region ?_;refine Rp 1 [.a] (sl 8 [(0,vL (Bo) a0),(3,vL (Bo) a0)] []) (aN) ?_;refine Run.inl rfl rfl (DW.ahs (len:=a0.length) (cs:=a0.flatMap (Bo)) rfl (fun b hbn=>?_));refine Rw [] (sl 8 [(0,vL (Bo) a0),(3,vL (Bo) a0),(4,vB b)] []) (aN) ?_;refine Tn ?_;refine Ag.ifB b (by kernel_rfl) (fun hb1=>?_) (fun hb1=>?_)
  ·have h0:a0=[]:=length_eq_zero_iff.1 (hbn hb1);refine Rg [.a] (sl 8 [(2, .c (.h_ [2]))] [I8 [2] 135 2 (Bo) ([]:List (EM))]) (aN) ?_;refine Ag.ret ?_;refine Tr ?_;exact⟨.inr rfl, .inl ⟨[2],I8 [2] 135 2 (Bo) ([]:List (EM)),0,by kernel_rfl,by kernel_rfl,by kernel_rfl,by kernel_rfl,by rw [h0];exact⟨rfl,rfl⟩⟩⟩
  ·refine Ag.skip ?_;refine Tn ?_;have hr:app 16 ([]:List (EM)) a0=some a0:=by unfold app;rw [if_pos ⟨by simpa using hb.1,by simpa using hb.2⟩];rfl
   refine Rg [.a, .a,(.e a0.length (a0.flatMap (Bo))), .a] (sl 8 [(2, .c (.h_ [5]))] [I8 [5] 135 2 (Bo) a0]) (aC (show (a0.flatMap (Bo)).length =a0.length*2 from BP (enc:=Bo) (n:=2) qt _)<|aC (vw hr (Bo))<|aC (LT hr)<|aN) ?_;refine Ag.ret ?_;exact⟨.inr rfl, .inl ⟨[5],I8 [5] 135 2 (Bo) a0,a0.length,by kernel_rfl,by kernel_rfl,by kernel_rfl,AX _ (fun _=>rfl) _,⟨rfl,rfl⟩⟩⟩
 ·cases h
def Fi:CE TE Tryz.prog I0:=a6 55 [.k (.u_ 135)] 135 (fun x=>Bs x.1) (fun x r h=>Mc (by kernel_rfl) (EB (r:=r) h))
def XD (aqx:List (Int)):Option ((List (Int))):=
 some aqx
def VF (ae6:Int) (asS:List (Int)):Option ((Int×(List (Int)))⊕((List (Int)))):=
 some (.inl ((Ad (ae6+1)),asS))
def XE (a0:Ao) (ae6:Int) (aly:List (Int)):Option ((Int×(List (Int)))⊕((List (Int)))):=
 (if(decide (ae6<(a0.m_.length:Int))) then
  jn (fun(v:(List (Int)))=>VF ae6 v) (fun afs=>
  (idx a0.m_ ae6).bind fun e13=>
  (if !e13.aoZ then
   (app 8 aly ([ae6]:List (Int))).bind fun l15=>
   afs l15
  else
   afs aly))
 else
  some (.inr aly))
def Nw (a0:Ao):Option ((List (Int))):=
 jn (fun(v:(List (Int)))=>XD v) (fun K_=>
 (iter (fun(v:Int×(List (Int)))=>XE a0 v.1 v.2) FU ((0:Int),([]:List (Int)))).bind (fun o0=>K_ o0))
def Pe:CE TE Tryz.prog I0:=AA [] Aa Ac 9 61 Tryz.f61 (Tryz.f61.body.getD .skip) (.s .n (.s .n (.j ⟨[],[(3, .c (.c (.h_ [3])))],[],[([3], .row 3)]⟩ (.s .n (.l ⟨[7,8],[(3, .c (.c (.h_ [3]))),(9, .c (.v (.k (.int .i64))))],[],[([3], .row 3)]⟩ [(1,⟨[],[(3, .c (.c (.h_ [3])))],[],[([3], .row 3)]⟩)] (.s .n (.s .n (.j ⟨[7,8,9],[(3, .c (.c (.h_ [3])))],[],[([3], .row 3)]⟩ .n .n))))) .n))) [.s 36] [.k (.u_ 3)] (fun x=>Nw x.1) Tryz.func61 rfl (by kernel_rfl)
def LC (a0:Int):Option (Bool):=
 some (a0 != a0)
def XF:CE TE Tryz.prog I0:=AA [] Aa Ac 9 128 Tryz.f128 (Tryz.f128.body.getD .skip) .n [.k (.int .i64)] [.k (.bool)] (fun x=>LC x.1) Tryz.func128 rfl (by kernel_rfl)
end Go.PL
