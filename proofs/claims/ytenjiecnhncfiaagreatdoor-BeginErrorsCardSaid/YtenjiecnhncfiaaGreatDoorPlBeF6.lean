/- Functions of the program, as partial functions in Lean, with proofs. -/
import Derived.Test.YtenjiecnhncfiaaGreatDoorPlBeB
import Derived.Test.YtenjiecnhncfiaaGreatDoorPlBeF0
import Derived.Test.YtenjiecnhncfiaaGreatDoorPlBeF2
import Derived.Test.YtenjiecnhncfiaaGreatDoorPlBeF3
import Derived.Test.YtenjiecnhncfiaaGreatDoorPlBeF4
import Derived.Test.YtenjiecnhncfiaaGreatDoorPlBeF5
namespace Go.PL
open Go Go.RowKit Go.Proofs
set_option maxRecDepth 100000
set_option linter.all false
set_option maxHeartbeats 4000000
attribute [local irreducible] Ag Cv Co
def IR (aop:List (List UInt8)):Option ((List UInt8)):=
 (Gd aop Dt).bind fun r5=>
 some r5
def My (a0:List (A1)) (ajJ:Int) (afo:List (List UInt8)):Option ((Int×(List (List UInt8)))⊕((List (List UInt8))⊕(List UInt8))):=
 (if(decide (ajJ<(a0.length:Int))) then
  (idx a0 ajJ).bind fun e15=>
  (HB e15).bind fun r16=>
  (if !r16 then
   some (.inr (.inr ([]:List UInt8)))
  else
   (T7 e15).bind fun r18=>
   (app 16 afo ([r18]:List (List UInt8))).bind fun l19=>
   some (.inl ((Ad (ajJ+1)),l19)))
 else
  some (.inr (.inl afo)))
def E4 (a0:List (A1)):Option ((List UInt8)):=
 (some (if(decide ((a0.length:Int)<1)) then true else decide (6<(a0.length:Int)))).bind fun b1=>
 (if b1 then
  some ([]:List UInt8)
 else
  jn (fun(v:(List (List UInt8)))=>IR v) (fun jJ4=>
  (iter (fun(v:Int×(List (List UInt8)))=>My a0 v.1 v.2) FU ((0:Int),([]:List (List UInt8)))).bind (Sum.elim (fun o0=>jJ4 o0) (fun o1=>some o1))))
def Py:CE TE Tryz.prog I0:=AA [nG,rc,Pd] Aa Ac 9 146 Tryz.f146 (Tryz.f146.body.getD .skip) (.s .n (.s .n (.s .n (.j ⟨[],[(3, .c (.c (.h_ [3])))],[],[([3], .row 9)]⟩ (.s .n (.l ⟨[14,15],[(3, .c (.c (.h_ [3]))),(16, .c (.v (.k (.int .i64))))],[],[([3], .row 9)]⟩ [(1,⟨[],[(3, .c (.c (.h_ [3])))],[],[([3], .row 9)]⟩),(0,⟨[],[(2, .c (.v (.k (.str))))],[],[]⟩)] .n)) .n)))) [.k (.u_ 140)] [.k (.str)] (fun x=>E4 x.1) Tryz.func146 rfl (by kernel_rfl)
def Ul (a0:A1):Option ((List UInt8)):=
 (Px a0).bind fun r1=>
 (if !r1 then
  some ([]:List UInt8)
 else
  (if a0.Kind==1 then
   some W7
  else
   (if a0.Kind==2 then
    (Dm a0.N).bind fun r5=>
    (cat Ng r5).bind fun s6=>
    some s6
   else
    (if a0.Kind==3 then
     (Dm a0.N).bind fun r8=>
     (cat La r8).bind fun s9=>
     some s9
    else
     (if a0.Kind==4 then
      (cat SV a0.Sub).bind fun s11=>
      some s11
     else
      (if a0.Kind==5 then
       (cat P5 a0.Sub).bind fun s13=>
       some s13
      else
       (if a0.Kind==6 then
        (Mv a0.N).bind fun r15=>
        (cat Lb r15).bind fun s16=>
        some s16
       else
        (if a0.Kind==7 then
         (Mv a0.N).bind fun r18=>
         (cat Jd r18).bind fun s19=>
         some s19
        else
         (if a0.Kind==8 then
          (Pr a0.N).bind fun r21=>
          (cat Nl r21).bind fun s22=>
          some s22
         else
          (if a0.Kind==9 then
           (Pr a0.N).bind fun r24=>
           (cat D9 r24).bind fun s25=>
           some s25
          else
           (if a0.Kind==10 then
            some gD
           else
            (if a0.Kind==11 then
             (Uk a0.Filter).bind fun r28=>
             (cat HS r28).bind fun s29=>
             (cat s29 YO).bind fun s30=>
             some s30
            else
             (if a0.Kind==12 then
              (Dy a0.N).bind fun r32=>
              (cat YP r32).bind fun s33=>
              (cat s33 Lc).bind fun s34=>
              (Dy a0.M).bind fun r35=>
              (cat s34 r35).bind fun s36=>
              some s36
             else
              (if a0.Kind==13 then
               (Dy a0.N).bind fun r38=>
               (cat SW r38).bind fun s39=>
               (cat s39 Lc).bind fun s40=>
               (Dy a0.M).bind fun r41=>
               (cat s40 r41).bind fun s42=>
               some s42
              else
               some QE))))))))))))))
def ri:CE TE Tryz.prog I0:=AA [nL,N6,qW,qZ,rf,RI] Aa Ac 9 119 Tryz.f119 (Tryz.f119.body.getD .skip) .n [.s 140] [.k (.str)] (fun x=>Ul x.1) Tryz.func119 rfl (by kernel_rfl)
def Qh (a0:Au):Option (Bool):=
 (gd ((a0.Who != 0)==false) (JB a0.Filter)).bind fun r1=>
 (some (if a0.Who != 0 then true else !r1)).bind fun b2=>
 (if b2 then
  some false
 else
  (if a0.Do==5 then
   (some (if a0.N==0 then a0.o_==0 else false)).bind fun b5=>
   (some (if a0.q_==1 then true else a0.q_==2)).bind fun b6=>
   (some (if b6 then true else a0.q_==4)).bind fun b7=>
   (some (if b5 then b7 else false)).bind fun b8=>
   some b8
  else
   (if a0.Do==6 then
    (some (if a0.N==0 then a0.o_==0 else false)).bind fun b10=>
    (some (if b10 then a0.q_==0 else false)).bind fun b11=>
    some b11
   else
    (if a0.Do==7 then
     (some (if a0.q_==0 then decide (1<=a0.N)else false)).bind fun b13=>
     (some (if b13 then decide (a0.N<=99)else false)).bind fun b14=>
     (some (if b14 then decide (0<=a0.o_)else false)).bind fun b15=>
     (some (if b15 then decide (a0.o_<3)else false)).bind fun b16=>
     some b16
    else
     some false))))
def nM:CE TE Tryz.prog I0:=AA [Xn] Aa Ac 9 123 Tryz.f123 (Tryz.f123.body.getD .skip) .n [.s 102] [.k (.bool)] (fun x=>Qh x.1) Tryz.func123 rfl (by kernel_rfl)
def Um (a0:List (Dc)):Option (Bool):=
 some (decide ((a0.length:Int)<=4))
def E5 (a0:List (Dc)) (akk:Int):Option ((Int)⊕(Unit⊕Bool)):=
 (if(decide (akk<(a0.length:Int))) then
  (idx a0 akk).bind fun e7=>
  (KH e7).bind fun r8=>
  (if !r8 then
   some (.inr (.inr false))
  else
   some (.inl (Ad (akk+1))))
 else
  some (.inr (.inl ())))
def Qi (a0:List (Dc)):Option (Bool):=
 jn (fun(v:Unit)=>Um a0) (fun jJ1=>
 (iter (fun(v:Int)=>E5 a0 v) FU (0:Int)).bind (Sum.elim (fun o0=>jJ1 ()) (fun o1=>some o1)))
def nN:CE TE Tryz.prog I0:=AA [rh] Aa Ac 9 84 Tryz.f84 (Tryz.f84.body.getD .skip) (.s .n (.j ⟨[0],[],[],[]⟩ (.s .n (.l ⟨[0],[(3, .c (.v (.k (.int .i64))))],[],[]⟩ [(1,⟨[0],[],[],[]⟩),(0,⟨[],[(2, .c (.v (.k (.bool))))],[],[]⟩)] .n)) .n)) [.k (.u_ 167)] [.k (.bool)] (fun x=>Qi x.1) Tryz.func84 rfl (by kernel_rfl)
end Go.PL
