/- Functions of the program, as partial functions in Lean, with proofs. -/
import Derived.Test.YtfmknfnfpeopeaaGreatDoorPlBhB
import Derived.Test.YtfmknfnfpeopeaaGreatDoorPlBhF0
namespace Go.PL
open Go Go.RowKit Go.Proofs
set_option maxRecDepth 100000
set_option linter.all false
set_option maxHeartbeats 4000000
attribute [local irreducible] Ae C0 C3
def Z8:Option (Bool):=
 some true
def Yi (a0:Pe) (vt38_10:Int):Option ((Int)⊕(Unit)):=
 (if(decide (vt38_10<(a0.Subs.length:Int)))=true then
  (AN a0.Subs vt38_10).bind fun e13=>
  none
 else
  some (.inr ()))
def bi (a0:Pe):Option (Bool):=
 (some (if(decide (a0.Super<0))=true then true else decide (3<a0.Super))).bind fun b1=>
 (some (if b1=true then true else decide (a0.Types<1))).bind fun b2=>
 (some (if b2=true then true else decide (63<a0.Types))).bind fun b3=>
 (gd (b3==false) (K8 a0.Types)).bind fun r4=>
 (some (if b3=true then true else !r4)).bind fun b5=>
 (some (if b5=true then true else decide (4<(a0.Subs.length:Int)))).bind fun b6=>
 (if b6=true then
  some false
 else
  jn (fun(v:Unit)=>Z8) (fun jJ8=>
  (iter (fun(v:Int)=>Yi a0 v) FU (0:Int)).bind (fun o0=>jJ8 ())))
def di:CE TE Tryz.prog I0:=CG [Ps] An Av 9 63 Tryz.f63 (Tryz.f63.body.getD .skip) (.s .n (.s .n (.j ⟨[],[],[],[]⟩ (.s .n (.l ⟨[1,36,37],[(38, .c (.v (.k (.int .i64))))],[[1]],[]⟩ [(1,⟨[],[],[],[]⟩)] (.s .n (.s .n (.s (.s .n .x) .n))))) .n))) [.s 64] [.k (.bool)] (fun x=>bi x.1) Tryz.func63 rfl (by kernel_rfl)
def Jw (a0:Int) (a1:Int):Option (Int×Int):=
 (if(decide (a1<1))=true then
  some ((0:Int),a0)
 else
  (NZ a0).bind fun r2=>
  (AS ((IntKind.u64.wrap (a1)) ≠ 0)).bind fun u3=>
  some (Al (Int.tmod r2.1 (IntKind.u64.wrap (a1))),r2.2))
def WC:CE TE Tryz.prog I0:=CG [Yg] An Av 9 25 Tryz.f25 (Tryz.f25.body.getD .skip) .n [.k (.int .u64), .k (.int .i64)] [.k (.int .i64), .k (.int .u64)] (fun x=>Jw x.1 x.2.1) Tryz.func25 rfl (by kernel_rfl)
def CA (a0:Ar):Option (Ar):=
 (Am a0.Library).bind fun r1=>
 (Am a0.Hand).bind fun r2=>
 (Am a0.Graveyard).bind fun r3=>
 some (⟨a0.Life,a0.Venom,a0.Lands,a0.Pool,a0.Failed,a0.Lost,r1,r2,r3⟩:Ar)
def M0:CE TE Tryz.prog I0:=fG [Bp] An Av 9 27 Tryz.f27 (Tryz.f27.body.getD .skip) (.s .n (.s (.r [] [] (.q 2 .co .n)) (.s (.r [] [] (.q 2 .co .n)) (.s (.r [] [] (.q 2 .co .n)) .n)))) [[0,0,0,0,0,0,0,0,0,0,0,1,1,1]] [.s 52] [.s 52] (fun x=>CA x.1) Tryz.func27 rfl (by kernel_rfl)
def KY (a0:Cs) (r1:(List (KX))) (r2:(List (H9))) (l0_0_14_4:List (BT)):Option (Cs):=
 some (⟨a0.Kind,a0.Filter,r1,a0.Price,a0.Slow,a0.Trigger,a0.May,r2,l0_0_14_4,a0.Replace⟩:Cs)
def Kl (r3:(List (BT))) (vt19_9:Int) (l0_0_14_10:List (BT)):Option ((Int×(List (BT)))⊕((List (BT)))):=
 (if(decide (vt19_9<(r3.length:Int)))=true then
  (AN l0_0_14_10 vt19_9).bind fun e14=>
  (AN l0_0_14_10 vt19_9).bind fun e15=>
  (AP e15.Mods).bind fun r16=>
  (AN l0_0_14_10 vt19_9).bind fun e17=>
  (AN l0_0_14_10 vt19_9).bind fun e19=>
  (some (l0_0_14_10.set (vt19_9).toNat ({e19 with Mods:=r16}))).bind fun l18=>
  some (.inl ((Al (vt19_9+1)),l18))
 else
  some (.inr l0_0_14_10))
def FG (a0:Cs):Option (Cs):=
 (AP a0.Mods).bind fun r1=>
 (Br a0.Specs).bind fun r2=>
 (Bb a0.Effects).bind fun r3=>
 jn (fun(v:(List (BT)))=>KY a0 r1 r2 v) (fun jJ5=>
 (iter (fun(v:Int×(List (BT)))=>Kl r3 v.1 v.2) FU ((0:Int),r3)).bind (fun o0=>jJ5 o0))
def L5:CE TE Tryz.prog I0:=CG [CU,Fe,Eb] An Av 9 30 Tryz.f30 (Tryz.f30.body.getD .skip) (.s .n (.s (.r [] [] (.q 2 .co .n)) (.s (.r [] [] (.q 2 .co .n)) (.s (.r [] [] (.q 2 .co .n)) (.j ⟨[1,2],[],[[1],[0,0,6],[0,0,10],[2]],[([0,0,14], .row 148)]⟩ (.s .n (.l ⟨[1,2,18],[(19, .c (.v (.k (.int .i64))))],[[1],[0,0,6],[0,0,10],[2]],[([0,0,14], .row 148)]⟩ [(1,⟨[1,2],[],[[1],[0,0,6],[0,0,10],[2]],[([0,0,14], .row 148)]⟩)] (.s .n (.s .n (.s (.s .n (.r [] [] (.t .n))) .n))))) .n))))) [.s 105] [.s 105] (fun x=>FG x.1) Tryz.func30 rfl (by kernel_rfl)
def JG (a0:Int) (a1:Int):Option (Int):=
 (In a0).bind fun r1=>
 (In a1).bind fun r2=>
 (if r1=true then
  (if r2=true then
   some (0:Int)
  else
   some (-1:Int))
 else
  (if r2=true then
   some (1:Int)
  else
   (if(decide (a0<a1))=true then
    some (-1:Int)
   else
    (if(decide (a1<a0))=true then
     some (1:Int)
    else
     some (0:Int)))))
def M1:CE TE Tryz.prog I0:=CG [PA] An Av 9 50 Tryz.f50 (Tryz.f50.body.getD .skip) .n [.k (.int .i64), .k (.int .i64)] [.k (.int .i64)] (fun x=>JG x.1 x.2.1) Tryz.func50 rfl (by kernel_rfl)
def CW (a0:List (Int)) (a1:Int):Option (Bool):=
 (DO a0 a1).bind fun r1=>
 some (decide (0≤r1))
def D6:CE TE Tryz.prog I0:=CG [Fg] An Av 9 36 Tryz.f36 (Tryz.f36.body.getD .skip) .n [.k (.lst 3), .k (.int .i64)] [.k (.bool)] (fun x=>CW x.1 x.2.1) Tryz.func36 rfl (by kernel_rfl)
def WD:Option ((List (Int))):=
 some ([]:List (Int))
def CB (a0:Af) (a1:Int) (a2:Int):Option ((List (Int))):=
 jn (fun(v:Unit)=>WD) (fun jJ1=>
 (if(a1==0)=true then
  none
 else
  (if(a1==4)=true then
   none
  else
   (some (if(decide (a2<0))=true then true else decide ((a0.Players.length:Int)≤a2))).bind fun b4=>
   (if b4=true then
    none
   else
    (AN a0.Players a2).bind fun e6=>
    (if(a1==1)=true then
     (if true=true then
      (Am e6.Hand).bind fun r9=>
      some r9
     else
      jJ1 ())
    else
     (if(a1==2)=true then
      (if true=true then
       (Am e6.Library).bind fun r12=>
       some r12
      else
       jJ1 ())
     else
      (if(a1==3)=true then
       none
      else
       none)))))))
def Ib:CE TE Tryz.prog I0:=CG [Bp] An Av 9 19 Tryz.f19 (Tryz.f19.body.getD .skip) (.s .n (.j ⟨[],[],[],[]⟩ (.s (.r [] [] (.c 2 (.s (.r [] [] (.g 0 (.ug [10]) .n)) (.s (.s .n (.s .n (.i .x (.s .n (.i .x .n))))) (.s (.s .n (.i .x .n)) (.s .n (.s (.s .n (.s .n (.i .n (.s .n (.i .n (.s .n (.i .x .n))))))) .x))))) .n)) (.s .n (.i (.s (.r [] [] (.q 3 .co .n)) .n) .n))) .n)) [.s 31, .k (.int .i64), .k (.int .i64)] [.k (.lst 3)] (fun x=>CB x.1 x.2.1 x.2.2.1) Tryz.func19 rfl (by kernel_rfl)
def KQ (a0:Af) (a1:Int):Option (Aa×Bool):=
 (L4 a0 a1).bind fun r1=>
 (if(decide (r1<0))=true then
  some ((⟨0,0,0,0,0,false,false,false,false,0,(⟨0,0,0⟩:A3 (Int)),0,0,0,false,0,0⟩:Aa),false)
 else
  (AN a0.Objects r1).bind fun e3=>
  some (e3,true))
def Yj:CE TE Tryz.prog I0:=CG [Wz] An Av 9 52 Tryz.f52 (Tryz.f52.body.getD .skip) .n [.s 31, .k (.int .i64)] [.s 60, .k (.bool)] (fun x=>KQ x.1 x.2.1) Tryz.func52 rfl (by kernel_rfl)
def D2 (l0_0_6_2:List (Int)):Option ((List (Int))):=
 some l0_0_6_2
def FH (jJ3:((List (Int)))→Option ((List (Int)))) (vt5_7:Int) (l0_0_6_8:List (Int)):Option ((List (Int))):=
 (AS (0≤vt5_7∧vt5_7≤((l0_0_6_8.length:Nat):Int)∧((l0_0_6_8.length:Nat):Int)≤((l0_0_6_8.length:Nat):Int)∧0<l0_0_6_8.length)).bind fun u10=>
 (AS (vt5_7+(((l0_0_6_8.length:Nat):Int) - vt5_7)≤((l0_0_6_8.length:Nat):Int)∧0<l0_0_6_8.length)).bind fun u11=>
 (some (l0_0_6_8.take vt5_7.toNat++(List.replicate (((l0_0_6_8.length:Nat):Int) - vt5_7).toNat (0:Int)++l0_0_6_8.drop (vt5_7.toNat+(((l0_0_6_8.length:Nat):Int) - vt5_7).toNat)))).bind fun l12=>
 (AS (0≤(0:Int)∧0≤vt5_7∧vt5_7≤((l12.length:Nat):Int)∧0<l12.length)).bind fun u13=>
 (AS ((0:Int)=0∧(vt5_7 - 0)≤((l12.length:Nat):Int)∧0<l12.length)).bind fun u14=>
 jJ3 (l12.take (vt5_7 - 0).toNat)
def Ic (vt6_21:Int) (vt5_27:Int) (l0_0_6_28:List (Int)):Option ((Int×Int×(List (Int)))⊕((Int×(List (Int))))):=
 some (.inl (vt5_27,(Al (vt6_21+1)),l0_0_6_28))
def BP (a1:Int) (vt5_20:Int) (vt6_21:Int) (l0_0_6_22:List (Int)):Option ((Int×Int×(List (Int)))⊕((Int×(List (Int))))):=
 (if(decide (vt6_21<(l0_0_6_22.length:Int)))=true then
  jn (fun(v:Int×(List (Int)))=>Ic vt6_21 v.1 v.2) (fun jJ29=>
  (AN l0_0_6_22 vt6_21).bind fun e30=>
  (AN l0_0_6_22 vt6_21).bind fun e31=>
  (if(!(e31==a1))=true then
   (AN l0_0_6_22 vt5_20).bind fun e33=>
   (AN l0_0_6_22 vt5_20).bind fun e35=>
   (some (l0_0_6_22.set (vt5_20).toNat e31)).bind fun l34=>
   jJ29 ((Al (vt5_20+1)),l34)
  else
   jJ29 (vt5_20,l0_0_6_22)))
 else
  some (.inr (vt5_20,l0_0_6_22)))
def FI (a1:Int) (r1:(List (Int))) (jJ3:((List (Int)))→Option ((List (Int)))) (vt10_4:Int):Option ((List (Int))):=
 (if(vt10_4==(-1:Int))=true then
  jJ3 r1
 else
  jn (fun(v:Int×(List (Int)))=>FH jJ3 v.1 v.2) (fun jJ9=>
  (iter (fun(v:Int×Int×(List (Int)))=>BP a1 v.1 v.2.1 v.2.2) FU (vt10_4,(Al (vt10_4+1)),r1)).bind (fun o0=>jJ9 (o0.1,o0.2))))
def M2 (jJ5:(Int)→Option ((List (Int)))):Option ((List (Int))):=
 jJ5 (-1:Int)
def Dn (a1:Int) (r1:(List (Int))) (vt8_38:Int):Option ((Int)⊕(Unit⊕Int)):=
 (if(decide (vt8_38<(r1.length:Int)))=true then
  (AN r1 vt8_38).bind fun e42=>
  (AN r1 vt8_38).bind fun e43=>
  (if(e43==a1)=true then
   some (.inr (.inr vt8_38))
  else
   some (.inl (Al (vt8_38+1))))
 else
  some (.inr (.inl ())))
def B5 (a0:List (Int)) (a1:Int):Option ((List (Int))):=
 (Am a0).bind fun r1=>
 jn (fun(v:(List (Int)))=>D2 v) (fun jJ3=>
 jn (fun(v:Int)=>FI a1 r1 jJ3 v) (fun jJ5=>
 jn (fun(v:Unit)=>M2 jJ5) (fun jJ36=>
 (iter (fun(v:Int)=>Dn a1 r1 v) FU (0:Int)).bind (Sum.elim (fun o0=>jJ36 ()) (fun o1=>jJ5 o1)))))
def PD:CE TE Tryz.prog I0:=fG [Bp] An Av 9 76 Tryz.f76 (Tryz.f76.body.getD .skip) (.s .n (.s (.r [] [] (.q 1 .co (.j 3 ⟨[],[(8, .c (.c (.osl [0,0,6])))],[],[([0,0,6], .row 3)]⟩ (.s (.r [] [] (.g 0 (.ug [8]) .n)) (.s (.r [] [] (.j 2 ⟨[0,1],[(10, .c (.v (.k (.int .i64))))],[[0,0,6],[3]],[]⟩ (.s (.r [] [] (.g 0 (.ug [0,1,10]) .n)) (.j ⟨[],[],[[0,0,6],[3]],[]⟩ (.s .n (.l ⟨[0,1,7],[(8, .c (.v (.k (.int .i64))))],[[0,0,6],[3]],[]⟩ [(1,⟨[],[],[[0,0,6],[3]],[]⟩),(0,⟨[],[(4, .c (.v (.k (.int .i64))))],[[0,0,6],[3]],[]⟩)] (.s .n (.s .n (.s (.s .n (.s (.r [] [] (.c 5 (.s (.r [] [] (.g 0 (.ug [0,1,5,7,8,16]) .n)) .n) .n)) .n)) .n))))) .n)) .n)) (.s .n (.j ⟨[0],[(5, .c (.v (.k (.int .i64))))],[],[([0,0,6], .row 3)]⟩ (.s .n (.l ⟨[0,1],[(5, .c (.v (.k (.int .i64)))),(6, .c (.v (.k (.int .i64))))],[[3]],[([0,0,6], .row 3)]⟩ [(1,⟨[0],[(5, .c (.v (.k (.int .i64))))],[],[([0,0,6], .row 3)]⟩)] (.s .n (.j ⟨[0,1,6],[(5, .c (.v (.k (.int .i64))))],[[3]],[([0,0,6], .row 3)]⟩ (.s .n (.s (.r [] [] (.c 2 (.s (.r [] [] (.g 0 (.ug [0,1,5,6,7,28]) .n)) .n) .n)) .n)) .n)))) (.s (.r [] [] (.q 2 (.sub true) (.q 3 .clr .n))) (.s (.r [] [] (.q 2 (.sub true) (.g 3 (.tr 41) .n))) .n)))))) .n))) .n)) [[1]] [.k (.lst 3), .k (.int .i64)] [.k (.lst 3)] (fun x=>B5 x.1 x.2.1) Tryz.func76 rfl (by kernel_rfl)
def PE (a2:Int) (b11_2:Aa):Option (Aa):=
 some ({b11_2 with Sick:=a2==0})
def Jx (a0:Aa) (a1:Int) (a2:Int) (a3:Int) (a4:Int):Option (Aa):=
 (LZ a1 a0.Card a0.Owner a2 a4).bind fun r1=>
 jn (fun(v:Aa)=>PE a2 v) (fun jJ3=>
 (some (if(a2==0)=true then true else a2==5)).bind fun b4=>
 (if b4=true then
  jJ3 ({{r1 with Token:=a0.Token}with Control:=a3})
 else
  jJ3 ({r1 with Token:=a0.Token})))
def Sh:CE TE Tryz.prog I0:=CG [MX] An Av 9 54 Tryz.f54 (Tryz.f54.body.getD .skip) (.s .n (.s .n (.s .n (.j ⟨[2,10,11],[],[[10]],[([11], .box [.v (.s 60)])]⟩ .n .n)))) [.s 60, .k (.int .i64), .k (.int .i64), .k (.int .i64), .k (.int .i64)] [.s 60] (fun x=>Jx x.1 x.2.1 x.2.2.1 x.2.2.2.1 x.2.2.2.2.1) Tryz.func54 rfl (by kernel_rfl)
def Si:Option ((List (Int))):=
 some ([]:List (Int))
def Sk (a0:Bw) (jJ1:(Unit)→Option ((List (Int)))) (vt10_2:Bool):Option ((List (Int))):=
 (if vt10_2=true then
  some ([(0:Int)]:List (Int))
 else
  (if(a0.Kind==3)=true then
   (N1 (if(a0.Options.length:Int)<(if a0.Least<0 then(0:Int)else a0.Least)then(a0.Options.length:Int)else(if a0.Least<0 then(0:Int)else a0.Least))).bind fun r6=>
   some r6
  else
   (if(a0.Kind==4)=true then
    (N1 (a0.Options.length:Int)).bind fun r8=>
    some r8
   else
    (if(a0.Kind==5)=true then
     some ([a0.Least]:List (Int))
    else
     (if(a0.Kind==8)=true then
      (if(decide (0<(a0.Options.length:Int)))=true then
       (AS (0≤(a0.Options.length:Int)∧(a0.Options.length:Int)≤(a0.Options.length:Int)∧(a0.Options.length:Int)*8≤140737488355328∧(a0.Options.length:Int)≤maxLen)).bind fun u13=>
       (some (List.replicate ((a0.Options.length:Int)).toNat (0:Int))).bind fun l12=>
       (AN l12 (0:Int)).bind fun e14=>
       (AN l12 (0:Int)).bind fun e16=>
       (some (l12.set ((0:Int)).toNat a0.N)).bind fun l15=>
       some l15
      else
       jJ1 ())
     else
      jJ1 ())))))
def Gd (a0:Bw):Option ((List (Int))):=
 jn (fun(v:Unit)=>Si) (fun jJ1=>
 jn (fun(v:Bool)=>Sk a0 jJ1 v) (fun jJ3=>
 (if(a0.Kind==1)=true then
  jJ3 (a0.Kind==1)
 else
  (if(a0.Kind==2)=true then
   jJ3 (a0.Kind==2)
  else
   (if(a0.Kind==9)=true then
    jJ3 (a0.Kind==9)
   else
    (if(a0.Kind==10)=true then
     jJ3 (a0.Kind==10)
    else
     jJ3 (a0.Kind==11)))))))
def Lb:CE TE Tryz.prog I0:=CG [Yh] An Av 9 41 Tryz.f41 (Tryz.f41.body.getD .skip) (.s .n (.s .n (.j ⟨[],[],[],[]⟩ (.s .n (.j ⟨[1,3,9],[(10, .c (.v (.k (.bool))))],[[1]],[]⟩ .n .n)) .n))) [.s 45] [.k (.lst 3)] (fun x=>Gd x.1) Tryz.func41 rfl (by kernel_rfl)
def Pg (a0:List (Int)) (a1:Int):Option (Int):=
 (DO a0 a1).bind fun r1=>
 some r1
def TJ:CE TE Tryz.prog I0:=CG [Fg] An Av 9 84 Tryz.f84 (Tryz.f84.body.getD .skip) .n [.k (.lst 3), .k (.int .i64)] [.k (.int .i64)] (fun x=>Pg x.1 x.2.1) Tryz.func84 rfl (by kernel_rfl)
end Go.PL
