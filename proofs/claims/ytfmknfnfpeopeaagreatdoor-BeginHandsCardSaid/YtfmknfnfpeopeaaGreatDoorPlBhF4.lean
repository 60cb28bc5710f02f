/- Functions of the program, as partial functions in Lean, with proofs. -/
import Derived.Test.YtfmknfnfpeopeaaGreatDoorPlBhB
import Derived.Test.YtfmknfnfpeopeaaGreatDoorPlBhF0
import Derived.Test.YtfmknfnfpeopeaaGreatDoorPlBhF1
import Derived.Test.YtfmknfnfpeopeaaGreatDoorPlBhF2
import Derived.Test.YtfmknfnfpeopeaaGreatDoorPlBhF3
namespace Go.PL
open Go Go.RowKit Go.Proofs
set_option maxRecDepth 100000
set_option linter.all false
set_option maxHeartbeats 4000000
attribute [local irreducible] Ae C0 C3
def Sz:Option (Int):=
 some (0:Int)
def PN (vt57_10:Int):Option ((Int)⊕(Unit⊕Int)):=
 some (.inl (Al (vt57_10+1)))
def Ep (a0:Ct) (e15:List (Int)) (vt63_17:Int):Option ((Int)⊕(Unit⊕Int)):=
 (if(decide (vt63_17<(e15.length:Int)))=true then
  (AN e15 vt63_17).bind fun e21=>
  (some (if(decide (e21<0))=true then true else decide ((a0.Cards.length:Int)≤e21))).bind fun b22=>
  (gd (b22==false) (AN a0.Cards e21)).bind fun e23=>
  (some (if b22=true then true else e23.Token)).bind fun b24=>
  (if b24=true then
   some (.inr (.inr (2:Int)))
  else
   some (.inl (Al (vt63_17+1))))
 else
  some (.inr (.inl ())))
def Dc (a0:Ct) (vt57_10:Int):Option ((Int)⊕(Unit⊕Int)):=
 (if(decide (vt57_10<(a0.Decks.length:Int)))=true then
  jn (fun(v:Unit)=>PN vt57_10) (fun jJ14=>
  (AN a0.Decks vt57_10).bind fun e15=>
  (iter (fun(v:Int)=>Ep a0 e15 v) FU (0:Int)).bind (Sum.elim (fun o0=>jJ14 ()) (fun o1=>some (.inr (.inr o1)))))
 else
  some (.inr (.inl ())))
def SA (a0:Ct):Option (Int):=
 jn (fun(v:Unit)=>Sz) (fun jJ8=>
 (iter (fun(v:Int)=>Dc a0 v) FU (0:Int)).bind (Sum.elim (fun o0=>jJ8 ()) (fun o1=>some o1)))
def Dd (a0:Ct) (vt46_27:Int):Option ((Int)⊕(Unit⊕Int)):=
 (if(decide (vt46_27<(a0.Decks.length:Int)))=true then
  (AN a0.Decks vt46_27).bind fun e31=>
  (if(decide (250<(e31.length:Int)))=true then
   some (.inr (.inr (5:Int)))
  else
   some (.inl (Al (vt46_27+1))))
 else
  some (.inr (.inl ())))
def If (a0:Ct):Option (Int):=
 (FQ a0.Cards).bind fun r1=>
 (if(r1.2 != 0)=true then
  some r1.2
 else
  (some (if(decide ((a0.Decks.length:Int)<2))=true then true else decide (4<(a0.Decks.length:Int)))).bind fun b3=>
  (some (if b3=true then true else decide (a0.First<0))).bind fun b4=>
  (some (if b4=true then true else decide ((a0.Decks.length:Int)≤a0.First))).bind fun b5=>
  (if b5=true then
   some (1:Int)
  else
   jn (fun(v:Unit)=>SA a0) (fun jJ7=>
   (iter (fun(v:Int)=>Dd a0 v) FU (0:Int)).bind (Sum.elim (fun o0=>jJ7 ()) (fun o1=>some o1)))))
def TT:CE TE Tryz.prog I0:=CG [PI] An Av 9 11 Tryz.f11 (Tryz.f11.body.getD .skip) (.s .n (.s .n (.s .n (.j ⟨[1],[],[[1]],[]⟩ (.s .n (.l ⟨[1,44,45],[(46, .c (.v (.k (.int .i64))))],[[1]],[]⟩ [(1,⟨[1],[],[[1]],[]⟩),(0,⟨[],[(2, .c (.v (.k (.int .i64))))],[],[]⟩)] .n)) (.j ⟨[],[],[],[]⟩ (.s .n (.l ⟨[1,55,56],[(57, .c (.v (.k (.int .i64))))],[[1]],[]⟩ [(3,⟨[],[],[],[]⟩),(0,⟨[],[(2, .c (.v (.k (.int .i64))))],[],[]⟩)] (.s .n (.s .n (.j ⟨[1,55,56,57],[],[[1]],[]⟩ (.s .n (.s .n (.l ⟨[1,55,56,57,61,62],[(63, .c (.v (.k (.int .i64))))],[[1]],[]⟩ [(5,⟨[1,55,56,57],[],[[1]],[]⟩),(0,⟨[],[(2, .c (.v (.k (.int .i64))))],[],[]⟩)] .n))) .n))))) .n))))) [.s 38] [.k (.int .i64)] (fun x=>If x.1) Tryz.func11 rfl (by kernel_rfl)
def SC (b3_1:Af):Option (Af):=
 some b3_1
def Ca (a1:Int) (a2:Int) (vt9_6:Int) (b3_7:Af):Option ((Int×Af)⊕(Af)):=
 (if(decide (vt9_6<a2))=true then
  (CB b3_7 (2:Int) a1).bind fun r11=>
  (if((r11.length:Int)==0)=true then
   some (.inr b3_7)
  else
   (AN r11 (0:Int)).bind fun e13=>
   (Cm b3_7 e13 (1:Int) a1 false).bind fun r14=>
   some (.inl ((Al (vt9_6+1)),r14.1)))
 else
  some (.inr b3_7))
def Gk (a0:Af) (a1:Int) (a2:Int):Option (Af):=
 jn (fun(v:Af)=>SC v) (fun jJ2=>
 (iter (fun(v:Int×Af)=>Ca a1 a2 v.1 v.2) FU ((0:Int),a0)).bind (fun o0=>jJ2 o0))
def Lf:CE TE Tryz.prog I0:=CG [Ib,Ph] An Av 9 18 Tryz.f18 (Tryz.f18.body.getD .skip) (.s .n (.j ⟨[3,6],[],[[6]],[([3], .box [.v (.s 31)])]⟩ (.s .n (.l ⟨[1,3,6,8],[(9, .c (.v (.k (.int .i64))))],[[6]],[([3], .box [.v (.s 31)])]⟩ [(1,⟨[3,6],[],[[6]],[([3], .box [.v (.s 31)])]⟩)] (.s .n (.s .n (.s (.s .n (.s .n (.r [] [] (.t .n)))) .n))))) .n)) [.s 31, .k (.int .i64), .k (.int .i64)] [.s 31] (fun x=>Gk x.1 x.2.1 x.2.2.1) Tryz.func18 rfl (by kernel_rfl)
def TU (a0:Bw) (a1:List (Int)) (vt77_19:Bool):Option (Bool):=
 (if vt77_19=true then
  (Gf a0 a1).bind fun r22=>
  (gd (r22==true) (M4 a0 a1)).bind fun r23=>
  (some (if r22=true then r23 else false)).bind fun b24=>
  some b24
 else
  (if(a0.Kind==8)=true then
   (MZ a0 a1).bind fun r26=>
   some r26
  else
   some false))
def WE (a0:Bw) (a1:List (Int)) (vt10_2:Bool):Option (Bool):=
 (if vt10_2=true then
  (gd (((a1.length:Int)==1)==true) (Gf a0 a1)).bind fun r5=>
  (some (if((a1.length:Int)==1)=true then r5 else false)).bind fun b6=>
  some b6
 else
  (if(a0.Kind==3)=true then
   (some (if(decide (a0.Least≤(a1.length:Int)))=true then decide ((a1.length:Int)≤a0.Most)else false)).bind fun b8=>
   (gd (b8==true) (Gf a0 a1)).bind fun r9=>
   (some (if b8=true then r9 else false)).bind fun b10=>
   some b10
  else
   (if(a0.Kind==4)=true then
    (gd (((a1.length:Int)==(a0.Options.length:Int))==true) (Gf a0 a1)).bind fun r12=>
    (some (if((a1.length:Int)==(a0.Options.length:Int))=true then r12 else false)).bind fun b13=>
    some b13
   else
    (if(a0.Kind==5)=true then
     (gd (((a1.length:Int)==1)==true) (AN a1 (0:Int))).bind fun e15=>
     (some (if((a1.length:Int)==1)=true then decide (a0.Least≤e15)else false)).bind fun b16=>
     (gd (b16==true) (AN a1 (0:Int))).bind fun e17=>
     (some (if b16=true then decide (e17≤a0.Most)else false)).bind fun b18=>
     some b18
    else
     jn (fun(v:Bool)=>TU a0 a1 v) (fun jJ20=>
     (if(a0.Kind==6)=true then
      jJ20 (a0.Kind==6)
     else
      jJ20 (a0.Kind==7)))))))
def KR (a0:Bw) (a1:List (Int)):Option (Bool):=
 (if(decide (256<(a1.length:Int)))=true then
  some false
 else
  jn (fun(v:Bool)=>WE a0 a1 v) (fun jJ3=>
  (if(a0.Kind==1)=true then
   jJ3 (a0.Kind==1)
  else
   (if(a0.Kind==2)=true then
    jJ3 (a0.Kind==2)
   else
    (if(a0.Kind==9)=true then
     jJ3 (a0.Kind==9)
    else
     (if(a0.Kind==10)=true then
      jJ3 (a0.Kind==10)
     else
      jJ3 (a0.Kind==11)))))))
def Pi:CE TE Tryz.prog I0:=CG [TQ,Sy,Sf] An Av 9 42 Tryz.f42 (Tryz.f42.body.getD .skip) (.s .n (.s .n (.s (.s .n (.j ⟨[1,2,9],[(10, .c (.v (.k (.bool))))],[[2]],[]⟩ .n (.i .n (.s .n (.i .n (.s .n (.i .n (.s .n (.i .n (.j ⟨[1,2,9],[(77, .c (.v (.k (.bool))))],[[2]],[]⟩ .n .n)))))))))) .n))) [.s 45, .k (.lst 3)] [.k (.bool)] (fun x=>KR x.1 x.2.1) Tryz.func42 rfl (by kernel_rfl)
def Fj (a1:Int) (b2_1:Af):Option (Af):=
 (CB b2_1 (2:Int) a1).bind fun r3=>
 (CH b2_1.Seed r3).bind fun r4=>
 (Kp b2_1 (2:Int) a1 r4.1).bind fun r5=>
 some ({r5 with Seed:=r4.2})
def BG (a1:Int) (r6:(List (Int))) (vt13_10:Int) (b2_11:Af):Option ((Int×Af)⊕(Af)):=
 (if(decide (vt13_10<(r6.length:Int)))=true then
  (AN r6 vt13_10).bind fun e15=>
  (Cm b2_11 e15 (2:Int) a1 false).bind fun r16=>
  some (.inl ((Al (vt13_10+1)),r16.1))
 else
  some (.inr b2_11))
def CX (a0:Af) (a1:Int):Option (Af):=
 jn (fun(v:Af)=>Fj a1 v) (fun jJ2=>
 (CB a0 (1:Int) a1).bind fun r6=>
 (iter (fun(v:Int×Af)=>BG a1 r6 v.1 v.2) FU ((0:Int),a0)).bind (fun o0=>jJ2 o0))
def IY:CE TE Tryz.prog I0:=CG [Ib,Ph,Km,Z9] An Av 9 21 Tryz.f21 (Tryz.f21.body.getD .skip) (.s .n (.j ⟨[1,2,4],[],[[4]],[([2], .box [.v (.s 31)])]⟩ (.s .n (.l ⟨[1,2,4,11,12],[(13, .c (.v (.k (.int .i64))))],[[4]],[([2], .box [.v (.s 31)])]⟩ [(1,⟨[1,2,4],[],[[4]],[([2], .box [.v (.s 31)])]⟩)] .n)) (.s (.r [] [] (.t .n)) .n))) [.s 31, .k (.int .i64)] [.s 31] (fun x=>CX x.1 x.2.1) Tryz.func21 rfl (by kernel_rfl)
end Go.PL
