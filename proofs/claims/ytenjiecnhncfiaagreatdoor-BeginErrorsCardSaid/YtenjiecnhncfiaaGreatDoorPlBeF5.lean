/- Functions of the program, as partial functions in Lean, with proofs. -/
import Derived.Test.YtenjiecnhncfiaaGreatDoorPlBeB
import Derived.Test.YtenjiecnhncfiaaGreatDoorPlBeF0
import Derived.Test.YtenjiecnhncfiaaGreatDoorPlBeF1
import Derived.Test.YtenjiecnhncfiaaGreatDoorPlBeF2
import Derived.Test.YtenjiecnhncfiaaGreatDoorPlBeF3
import Derived.Test.YtenjiecnhncfiaaGreatDoorPlBeF4
namespace Go.PL
open Go Go.RowKit Go.Proofs
set_option maxRecDepth 100000
set_option linter.all false
set_option maxHeartbeats 4000000
attribute [local irreducible] Ag Cv Co
def T7 (a0:A1):Option ((List UInt8)):=
 (HB a0).bind fun r1=>
 (if !r1 then
  some ([]:List UInt8)
 else
  (if a0.Kind==1 then
   some W7
  else
   (if a0.Kind==2 then
    (Cs a0.N).bind fun r5=>
    (cat Ng r5).bind fun s6=>
    some s6
   else
    (if a0.Kind==3 then
     (Cs a0.N).bind fun r8=>
     (cat La r8).bind fun s9=>
     some s9
    else
     (if a0.Kind==4 then
      (cat SV a0.Sub).bind fun s11=>
      some s11
     else
      (if a0.Kind==5 then
       (cat P5 a0.Sub).bind fun s13=>
       some s13
      else
       (if a0.Kind==6 then
        (EF a0.N).bind fun r15=>
        (cat Lb r15).bind fun s16=>
        some s16
       else
        (if a0.Kind==7 then
         (EF a0.N).bind fun r18=>
         (cat Jd r18).bind fun s19=>
         some s19
        else
         (if a0.Kind==8 then
          (GU a0.N).bind fun r21=>
          (cat Nl r21).bind fun s22=>
          some s22
         else
          (if a0.Kind==9 then
           (GU a0.N).bind fun r24=>
           (cat D9 r24).bind fun s25=>
           some s25
          else
           (if a0.Kind==10 then
            some gD
           else
            (if a0.Kind==11 then
             (IA a0.Filter).bind fun r28=>
             (cat HS r28).bind fun s29=>
             (cat s29 YO).bind fun s30=>
             some s30
            else
             (if a0.Kind==12 then
              (Dd a0.N).bind fun r32=>
              (cat YP r32).bind fun s33=>
              (cat s33 Lc).bind fun s34=>
              (Dd a0.M).bind fun r35=>
              (cat s34 r35).bind fun s36=>
              some s36
             else
              (if a0.Kind==13 then
               (Dd a0.N).bind fun r38=>
               (cat SW r38).bind fun s39=>
               (cat s39 Lc).bind fun s40=>
               (Dd a0.M).bind fun r41=>
               (cat s40 r41).bind fun s42=>
               some s42
              else
               some QE))))))))))))))
def rc:CE TE Tryz.prog I0:=AA [nG,Mw,aiI,cd,QK,Nv] Aa Ac 9 182 Tryz.f182 (Tryz.f182.body.getD .skip) .n [.s 140] [.k (.str)] (fun x=>T7 x.1) Tryz.func182 rfl (by kernel_rfl)
def E3 (a0:Dc):Option ((List UInt8)):=
 (if !a0.Object then
  (some (if !a0.ab0 then true else !(a0.Filter==(⟨0,0,0,0,0,0,0,[],0,0,(⟨0,0⟩:Af),(⟨0,0⟩:Af),(⟨0,0⟩:Af)⟩:Aj)))).bind fun b2=>
  (if b2 then
   some ([]:List UInt8)
  else
   some jE)
 else
  (BX a0.Filter).bind fun r4=>
  (some (if a0.Filter.q_ != 0 then a0.Filter.q_ != 3 else false)).bind fun b5=>
  (some (if b5 then a0.Filter.q_ != 5 else false)).bind fun b6=>
  (some (if !r4 then true else b6)).bind fun b7=>
  (if b7 then
   some ([]:List UInt8)
  else
   (IA a0.Filter).bind fun r9=>
   (cat sL r9).bind fun s10=>
   (cat s10 gH).bind fun s11=>
   (if a0.ab0 then
    (cat NY s11).bind fun s13=>
    some s13
   else
    (cat sM s11).bind fun s14=>
    some s14)))
def RL:CE TE Tryz.prog I0:=AA [De,QK] Aa Ac 9 148 Tryz.f148 (Tryz.f148.body.getD .skip) .n [.s 167] [.k (.str)] (fun x=>E3 x.1) Tryz.func148 rfl (by kernel_rfl)
def cD (ahO:Ao):Option (Ao):=
 some ahO
def cE (a1:Int) (a2:Int) (ae6:Int) (al6:Ao):Option ((Int×Ao)⊕(Ao)):=
 (if decide (ae6<a2) then
  (Mu al6 (2:Int) a1).bind fun r11=>
  (if((r11.length:Int)==0) then
   some (.inr al6)
  else
   (idx r11 (0:Int)).bind fun e13=>
   (VW al6 e13 (1:Int) a1 false).bind fun r14=>
   some (.inl ((Ad (ae6+1)),r14.1)))
 else
  some (.inr al6))
def Xl (a0:Ao) (a1:Int) (a2:Int):Option (Ao):=
 jn (fun(v:Ao)=>cD v) (fun K_=>
 (iter (fun(v:Int×Ao)=>cE a1 a2 v.1 v.2) FU ((0:Int),a0)).bind (fun o0=>K_ o0))
def eC:CE TE Tryz.prog I0:=AA [Pj,Xk] Aa Ac 9 29 Tryz.f29 (Tryz.f29.body.getD .skip) (.s .n (.j ⟨[3,6],[],[[6]],[([3], .box [.v (.s 36)])]⟩ (.s .n (.l ⟨[1,3,6,8],[(9, .c (.v (.k (.int .i64))))],[[6]],[([3], .box [.v (.s 36)])]⟩ [(1,⟨[3,6],[],[[6]],[([3], .box [.v (.s 36)])]⟩)] (.s .n (.s .n (.s (.s .n (.s .n (.r [] [] (.t (.q 0 .lz .n))))) .n))))) .n)) [.s 36, .k (.int .i64), .k (.int .i64)] [.s 36] (fun x=>Xl x.1 x.2.1 x.2.2.1) Tryz.func29 rfl (by kernel_rfl)
def eD (a0:Cc) (a1:List (Int)) (anR:Bool):Option (Bool):=
 (if anR then
  (Iz a0 a1).bind fun r22=>
  (gd (r22==true) (T6 a0 a1)).bind fun r23=>
  (some (if r22 then r23 else false)).bind fun b24=>
  some b24
 else
  (if a0.Kind==8 then
   (TK a0 a1).bind fun r26=>
   some r26
  else
   some false))
def kt (a0:Cc) (a1:List (Int)) (ajP:Bool):Option (Bool):=
 (if ajP then
  (gd (((a1.length:Int)==1)==true) (Iz a0 a1)).bind fun r5=>
  (some (if((a1.length:Int)==1) then r5 else false)).bind fun b6=>
  some b6
 else
  (if a0.Kind==3 then
   (some (if(decide (a0.adA<=(a1.length:Int))) then decide ((a1.length:Int)<=a0.anu)else false)).bind fun b8=>
   (gd (b8==true) (Iz a0 a1)).bind fun r9=>
   (some (if b8 then r9 else false)).bind fun b10=>
   some b10
  else
   (if a0.Kind==4 then
    (gd (((a1.length:Int)==(a0.Options.length:Int))==true) (Iz a0 a1)).bind fun r12=>
    (some (if((a1.length:Int)==(a0.Options.length:Int)) then r12 else false)).bind fun b13=>
    some b13
   else
    (if a0.Kind==5 then
     (gd (((a1.length:Int)==1)==true) (idx a1 (0:Int))).bind fun e15=>
     (some (if((a1.length:Int)==1) then decide (a0.adA<=e15)else false)).bind fun b16=>
     (gd (b16==true) (idx a1 (0:Int))).bind fun e17=>
     (some (if b16 then decide (e17<=a0.anu)else false)).bind fun b18=>
     some b18
    else
     jn (fun(v:Bool)=>eD a0 a1 v) (fun akh=>
     (if a0.Kind==6 then
      akh (a0.Kind==6)
     else
      akh (a0.Kind==7)))))))
def gX (a0:Cc) (a1:List (Int)):Option (Bool):=
 (if(decide (256<(a1.length:Int))) then
  some false
 else
  jn (fun(v:Bool)=>kt a0 a1 v) (fun jJ3=>
  (if a0.Kind==1 then
   jJ3 (a0.Kind==1)
  else
   (if a0.Kind==2 then
    jJ3 (a0.Kind==2)
   else
    (if a0.Kind==9 then
     jJ3 (a0.Kind==9)
    else
     (if a0.Kind==10 then
      jJ3 (a0.Kind==10)
     else
      jJ3 (a0.Kind==11)))))))
def nK:CE TE Tryz.prog I0:=AA [ej,cz,bA] Aa Ac 9 67 Tryz.f67 (Tryz.f67.body.getD .skip) (.s .n (.s .n (.s (.s .n (.j ⟨[1,2,9],[(10, .c (.v (.k (.bool))))],[[2]],[]⟩ .n (.i .n (.s .n (.i .n (.s .n (.i .n (.s .n (.i .n (.j ⟨[1,2,9],[(77, .c (.v (.k (.bool))))],[[2]],[]⟩ .n .n)))))))))) .n))) [.s 81, .k (.u_ 3)] [.k (.bool)] (fun x=>gX x.1 x.2.1) Tryz.func67 rfl (by kernel_rfl)
def T8 (a1:Int) (arh:Ao):Option (Ao):=
 (Mu arh (2:Int) a1).bind fun r3=>
 (DL arh.adH r3).bind fun r4=>
 (nJ arh (2:Int) a1 r4.1).bind fun r5=>
 some ({r5 with adH:=r4.2})
def RM (a1:Int) (r6:(List (Int))) (aif:Int) (apP:Ao):Option ((Int×Ao)⊕(Ao)):=
 (if(decide (aif<(r6.length:Int))) then
  (idx r6 aif).bind fun e15=>
  (VW apP e15 (2:Int) a1 false).bind fun r16=>
  some (.inl ((Ad (aif+1)),r16.1))
 else
  some (.inr apP))
def Pw (a0:Ao) (a1:Int):Option (Ao):=
 jn (fun(v:Ao)=>T8 a1 v) (fun K_=>
 (Mu a0 (1:Int) a1).bind fun r6=>
 (iter (fun(v:Int×Ao)=>RM a1 r6 v.1 v.2) FU ((0:Int),a0)).bind (fun o0=>K_ o0))
def VY:CE TE Tryz.prog I0:=AA [Pj,Xk,Pn,q9] Aa Ac 9 32 Tryz.f32 (Tryz.f32.body.getD .skip) (.s .n (.j ⟨[1,2,4],[],[[4]],[([2], .box [.v (.s 36)])]⟩ (.s .n (.l ⟨[1,2,4,11,12],[(13, .c (.v (.k (.int .i64))))],[[4]],[([2], .box [.v (.s 36)])]⟩ [(1,⟨[1,2,4],[],[[4]],[([2], .box [.v (.s 36)])]⟩)] .n)) (.s (.r [] [] (.t (.q 2 .lz .n))) .n))) [.s 36, .k (.int .i64)] [.s 36] (fun x=>Pw x.1 x.2.1) Tryz.func32 rfl (by kernel_rfl)
def cF (a0:A1) (anT:Bool):Option (Bool):=
 (if anT then
  (some (if decide (1<=a0.N) then decide (a0.N<=131071)else false)).bind fun b20=>
  some b20
 else
  (if a0.Kind==11 then
   (IQ a0.Filter).bind fun r22=>
   some r22
  else
   (if a0.Kind==12 then
    (some (if decide (0<=a0.N) then decide (a0.N<=99)else false)).bind fun b24=>
    (some (if b24 then decide (0<=a0.M)else false)).bind fun b25=>
    (some (if b25 then decide (a0.M<=99)else false)).bind fun b26=>
    some b26
   else
    (if a0.Kind==13 then
     (some (if(decide ((-99:Int)<=a0.N)) then decide (a0.N<=99)else false)).bind fun b28=>
     (some (if b28 then decide ((-99:Int)<=a0.M)else false)).bind fun b29=>
     (some (if b29 then decide (a0.M<=99)else false)).bind fun b30=>
     some b30
    else
     some true))))
def cG (a0:A1) (ap3:Bool):Option (Bool):=
 (if ap3 then
  (JA a0.Sub).bind fun r12=>
  some r12
 else
  (if a0.Kind==6 then
   (some (if decide (0<=a0.N) then decide (a0.N<=31)else false)).bind fun b14=>
   some b14
  else
   (if a0.Kind==7 then
    (some (if decide (1<=a0.N) then decide (a0.N<=31)else false)).bind fun b16=>
    some b16
   else
    jn (fun(v:Bool)=>cF a0 v) (fun ahv=>
    (if a0.Kind==8 then
     ahv (a0.Kind==8)
    else
     ahv (a0.Kind==9))))))
def gY (a0:A1) (ap5:Bool):Option (Bool):=
 (if ap5 then
  (Qc a0.N).bind fun r8=>
  some r8
 else
  jn (fun(v:Bool)=>cG a0 v) (fun adX=>
  (if a0.Kind==4 then
   adX (a0.Kind==4)
  else
   adX (a0.Kind==5))))
def Px (a0:A1):Option (Bool):=
 (some (if decide (a0.Kind<1) then true else decide (14<a0.Kind))).bind fun b1=>
 (gd (b1==false) (bD a0)).bind fun r2=>
 (some (if b1 then true else !(r2==(⟨0,0,0,[],(⟨0,0,0,0,0,0,0,[],0,0,(⟨0,0⟩:Af),(⟨0,0⟩:Af),(⟨0,0⟩:Af)⟩:Aj)⟩:A1)))).bind fun b3=>
 (if b3 then
  some false
 else
  jn (fun(v:Bool)=>gY a0 v) (fun jJ6=>
  (if a0.Kind==2 then
   jJ6 (a0.Kind==2)
  else
   jJ6 (a0.Kind==3))))
def nL:CE TE Tryz.prog I0:=AA [qO,ng,Pp,GW] Aa Ac 9 118 Tryz.f118 (Tryz.f118.body.getD .skip) (.s .n (.s .n (.s (.s .n (.j ⟨[1,18],[(19, .c (.v (.k (.bool))))],[[1]],[]⟩ .n (.i .n (.j ⟨[1,18],[(25, .c (.v (.k (.bool))))],[[1]],[]⟩ .n (.i .n (.s .n (.i .n (.s .n (.i .n (.j ⟨[1,18],[(51, .c (.v (.k (.bool))))],[[1]],[]⟩ .n .n)))))))))) .n))) [.s 140] [.k (.bool)] (fun x=>Px x.1) Tryz.func118 rfl (by kernel_rfl)
def T9 (apa:List (List UInt8)):Option ((List UInt8)):=
 (if((apa.length:Int)==0) then
  some YN
 else
  (TP apa jD).bind fun r41=>
  some r41)
def Ua (a0:Aj) (apc:List (List UInt8)):Option ((List UInt8)):=
 (D0 gG a0.Value).bind fun r37=>
 jn (fun(v:(List (List UInt8)))=>T9 v) (fun amO=>
 (if(r37==([]:List UInt8)) then
  amO apc
 else
  (app 16 apc ([r37]:List (List UInt8))).bind fun l43=>
  amO l43))
def Ub (a0:Aj) (apd:List (List UInt8)):Option ((List UInt8)):=
 (D0 gF a0.v_).bind fun r34=>
 jn (fun(v:(List (List UInt8)))=>Ua a0 v) (fun aor=>
 (if(r34==([]:List UInt8)) then
  aor apd
 else
  (app 16 apd ([r34]:List (List UInt8))).bind fun l45=>
  aor l45))
def Uc (a0:Aj) (ape:List (List UInt8)):Option ((List UInt8)):=
 (D0 gE a0.Power).bind fun r31=>
 jn (fun(v:(List (List UInt8)))=>Ub a0 v) (fun as4=>
 (if(r31==([]:List UInt8)) then
  as4 ape
 else
  (app 16 ape ([r31]:List (List UInt8))).bind fun l47=>
  as4 l47))
def Ud (a0:Aj) (r6:(List (List UInt8))) (apf:List (List UInt8)):Option ((List UInt8)):=
 (idx r6 a0.Tap).bind fun e28=>
 jn (fun(v:(List (List UInt8)))=>Uc a0 v) (fun as6=>
 (if(e28==([]:List UInt8)) then
  as6 apf
 else
  (app 16 apf ([e28]:List (List UInt8))).bind fun l49=>
  as6 l49))
def ku (ael:Int) (asG:List (List UInt8)):Option ((Int×(List (List UInt8)))⊕((List (List UInt8)))):=
 some (.inl ((Ad (ael+1)),asG))
def NH (a0:Aj) (ael:Int) (amH:List (List UInt8)):Option ((Int×(List (List UInt8)))⊕((List (List UInt8)))):=
 (if decide (ael<17) then
  jn (fun(v:(List (List UInt8)))=>ku ael v) (fun as1=>
  (Lj a0.Keys ael).bind fun r60=>
  (if r60 then
   (T0 ael).bind fun r62=>
   (cat Mh r62).bind fun s63=>
   (app 16 amH ([s63]:List (List UInt8))).bind fun l64=>
   as1 l64
  else
   as1 amH))
 else
  some (.inr amH))
def NI (a0:Aj) (r6:(List (List UInt8))) (asH:List (List UInt8)):Option ((List UInt8)):=
 jn (fun(v:(List (List UInt8)))=>Ud a0 r6 v) (fun amQ=>
 (iter (fun(v:Int×(List (List UInt8)))=>NH a0 v.1 v.2) FU ((0:Int),asH)).bind (fun o0=>amQ o0))
def Ue (a0:Aj) (r6:(List (List UInt8))) (apg:List (List UInt8)):Option ((List UInt8)):=
 jn (fun(v:(List (List UInt8)))=>NI a0 r6 v) (fun amR=>
 (if(a0.Sub != ([]:List UInt8)) then
  (cat HR a0.Sub).bind fun s66=>
  (app 16 apg ([s66]:List (List UInt8))).bind fun l67=>
  amR l67
 else
  amR apg))
def kw (aem:Int) (asF:List (List UInt8)):Option ((Int×(List (List UInt8)))⊕((List (List UInt8)))):=
 some (.inl ((Ad (aem+1)),asF))
def NJ (a0:Aj) (aem:Int) (amG:List (List UInt8)):Option ((Int×(List (List UInt8)))⊕((List (List UInt8)))):=
 (if decide (aem<5) then
  jn (fun(v:(List (List UInt8)))=>kw aem v) (fun asX=>
  (Lj a0.r_ aem).bind fun r78=>
  (if r78 then
   (Pg aem).bind fun r80=>
   (cat GG r80).bind fun s81=>
   (app 16 amG ([s81]:List (List UInt8))).bind fun l82=>
   asX l82
  else
   asX amG))
 else
  some (.inr amG))
def Uf (a0:Aj) (r6:(List (List UInt8))) (asI:List (List UInt8)):Option ((List UInt8)):=
 jn (fun(v:(List (List UInt8)))=>Ue a0 r6 v) (fun aqD=>
 (iter (fun(v:Int×(List (List UInt8)))=>NJ a0 v.1 v.2) FU ((0:Int),asI)).bind (fun o0=>aqD o0))
def kx (aen:Int) (asD:List (List UInt8)):Option ((Int×(List (List UInt8)))⊕((List (List UInt8)))):=
 some (.inl ((Ad (aen+1)),asD))
def NK (a0:Aj) (aen:Int) (amF:List (List UInt8)):Option ((Int×(List (List UInt8)))⊕((List (List UInt8)))):=
 (if decide (aen<5) then
  jn (fun(v:(List (List UInt8)))=>kx aen v) (fun asV=>
  (Lj a0.Tj aen).bind fun r93=>
  (if r93 then
   (Pg aen).bind fun r95=>
   (app 16 amF ([r95]:List (List UInt8))).bind fun l96=>
   asV l96
  else
   asV amF))
 else
  some (.inr amF))
def Ug (a0:Aj) (r6:(List (List UInt8))) (asJ:List (List UInt8)):Option ((List UInt8)):=
 jn (fun(v:(List (List UInt8)))=>Uf a0 r6 v) (fun ago=>
 (iter (fun(v:Int×(List (List UInt8)))=>NK a0 v.1 v.2) FU ((0:Int),asJ)).bind (fun o0=>ago o0))
def eE (aei:Int) (aqv:List (List UInt8)):Option ((Int×(List (List UInt8)))⊕((List (List UInt8)))):=
 some (.inl ((Ad (aei+1)),aqv))
def LG (a0:Aj) (aei:Int) (aj7:List (List UInt8)):Option ((Int×(List (List UInt8)))⊕((List (List UInt8)))):=
 (if decide (aei<6) then
  jn (fun(v:(List (List UInt8)))=>eE aei v) (fun apq=>
  (Lj a0.w_ aei).bind fun awe=>
  (if awe then
   (Jk aei).bind fun awd=>
   (cat GG awd).bind fun avR=>
   (app 16 aj7 ([avR]:List (List UInt8))).bind fun awQ=>
   apq awQ
  else
   apq aj7))
 else
  some (.inr aj7))
def Uh (a0:Aj) (r6:(List (List UInt8))) (asK:List (List UInt8)):Option ((List UInt8)):=
 jn (fun(v:(List (List UInt8)))=>Ug a0 r6 v) (fun adV=>
 (iter (fun(v:Int×(List (List UInt8)))=>LG a0 v.1 v.2) FU ((0:Int),asK)).bind (fun o0=>adV o0))
def eF (aej:Int) (aqu:List (List UInt8)):Option ((Int×(List (List UInt8)))⊕((List (List UInt8)))):=
 some (.inl ((Ad (aej+1)),aqu))
def LH (a0:Aj) (aej:Int) (aj6:List (List UInt8)):Option ((Int×(List (List UInt8)))⊕((List (List UInt8)))):=
 (if decide (aej<6) then
  jn (fun(v:(List (List UInt8)))=>eF aej v) (fun apn=>
  (Lj a0.Types aej).bind fun awc=>
  (if awc then
   (Jk aej).bind fun awb=>
   (app 16 aj6 ([awb]:List (List UInt8))).bind fun awM=>
   apn awM
  else
   apn aj6))
 else
  some (.inr aj6))
def Ui (a0:Aj) (r6:(List (List UInt8))) (asL:List (List UInt8)):Option ((List UInt8)):=
 jn (fun(v:(List (List UInt8)))=>Uh a0 r6 v) (fun alH=>
 (iter (fun(v:Int×(List (List UInt8)))=>LH a0 v.1 v.2) FU ((0:Int),asL)).bind (fun o0=>alH o0))
def Uj (a0:Aj) (r5:(List (List UInt8))) (r6:(List (List UInt8))) (aph:List (List UInt8)):Option ((List UInt8)):=
 (idx r5 a0.Self).bind fun e13=>
 jn (fun(v:(List (List UInt8)))=>Ui a0 r6 v) (fun adl=>
 (if(e13==([]:List UInt8)) then
  adl aph
 else
  (app 16 aph ([e13]:List (List UInt8))).bind fun awL=>
  adl awL))
def Xm (a0:Aj) (r4:(List (List UInt8))) (r5:(List (List UInt8))) (r6:(List (List UInt8))) (asE:List (List UInt8)):Option ((List UInt8)):=
 (idx r4 a0.Who).bind fun e10=>
 jn (fun(v:(List (List UInt8)))=>Uj a0 r5 r6 v) (fun afs=>
 (if(e10==([]:List UInt8)) then
  afs asE
 else
  (app 16 asE ([e10]:List (List UInt8))).bind fun awK=>
  afs awK))
def Uk (a0:Aj):Option ((List UInt8)):=
 (IQ a0).bind fun r1=>
 (if !r1 then
  some ([]:List UInt8)
 else
  (QI).bind fun r3=>
  (TN).bind fun r4=>
  (QJ).bind fun r5=>
  (TO).bind fun r6=>
  (idx r3 a0.q_).bind fun e7=>
  jn (fun(v:(List (List UInt8)))=>Xm a0 r4 r5 r6 v) (fun jJ9=>
  (if(e7==([]:List UInt8)) then
   jJ9 ([]:List (List UInt8))
  else
   (app 16 ([]:List (List UInt8)) ([e7]:List (List UInt8))).bind fun awJ=>
   jJ9 awJ)))
def rf:CE TE Tryz.prog I0:=AA [GW,XH,bH,XI,bI,uZ,cB,bG,b0,XT,qQ] Aa Ac 9 158 Tryz.f158 (Tryz.f158.body.getD .skip) (.s .n (.s .n (.s .n (.s .n (.s .n (.s .n (.s .n (.s (.r [] [] (.j 6 ⟨[1,4,5,6],[(26, .c (.c (.h_ [7])))],[[1]],[([7], .row 9)]⟩ .n .n)) (.s (.r [] [] (.j 6 ⟨[1,5,6],[(33, .c (.c (.h_ [7])))],[[1]],[([7], .row 9)]⟩ .n .n)) (.s (.r [] [] (.j 6 ⟨[1,6],[(40, .c (.c (.h_ [7])))],[[1]],[([7], .row 9)]⟩ .n .n)) (.j ⟨[1,6],[(7, .c (.c (.h_ [7])))],[[1]],[([7], .row 9)]⟩ (.s .n (.l ⟨[1,6],[(7, .c (.c (.h_ [7]))),(8, .c (.v (.k (.int .i64))))],[[1]],[([7], .row 9)]⟩ [(1,⟨[1,6],[(7, .c (.c (.h_ [7])))],[[1]],[([7], .row 9)]⟩)] (.s .n (.j ⟨[1,6,8],[(7, .c (.c (.h_ [7])))],[[1]],[([7], .row 9)]⟩ .n .n)))) (.j ⟨[1,6],[(7, .c (.c (.h_ [7])))],[[1]],[([7], .row 9)]⟩ (.s .n (.l ⟨[1,6],[(7, .c (.c (.h_ [7]))),(9, .c (.v (.k (.int .i64))))],[[1]],[([7], .row 9)]⟩ [(3,⟨[1,6],[(7, .c (.c (.h_ [7])))],[[1]],[([7], .row 9)]⟩)] (.s .n (.j ⟨[1,6,9],[(7, .c (.c (.h_ [7])))],[[1]],[([7], .row 9)]⟩ .n .n)))) (.j ⟨[1,6],[(7, .c (.c (.h_ [7])))],[[1]],[([7], .row 9)]⟩ (.s .n (.l ⟨[1,6],[(7, .c (.c (.h_ [7]))),(10, .c (.v (.k (.int .i64))))],[[1]],[([7], .row 9)]⟩ [(5,⟨[1,6],[(7, .c (.c (.h_ [7])))],[[1]],[([7], .row 9)]⟩)] (.s .n (.j ⟨[1,6,10],[(7, .c (.c (.h_ [7])))],[[1]],[([7], .row 9)]⟩ .n .n)))) (.j ⟨[1,6],[(7, .c (.c (.h_ [7])))],[[1]],[([7], .row 9)]⟩ (.s .n (.l ⟨[1,6],[(7, .c (.c (.h_ [7]))),(11, .c (.v (.k (.int .i64))))],[[1]],[([7], .row 9)]⟩ [(7,⟨[1,6],[(7, .c (.c (.h_ [7])))],[[1]],[([7], .row 9)]⟩)] (.s .n (.j ⟨[1,6,11],[(7, .c (.c (.h_ [7])))],[[1]],[([7], .row 9)]⟩ .n .n)))) (.j ⟨[1,6],[(7, .c (.c (.h_ [7])))],[[1]],[([7], .row 9)]⟩ .n (.j ⟨[1,6],[(7, .c (.c (.h_ [7])))],[[1]],[([7], .row 9)]⟩ (.s .n (.l ⟨[1,6],[(7, .c (.c (.h_ [7]))),(12, .c (.v (.k (.int .i64))))],[[1]],[([7], .row 9)]⟩ [(9,⟨[1,6],[(7, .c (.c (.h_ [7])))],[[1]],[([7], .row 9)]⟩)] (.s .n (.j ⟨[1,6,12],[(7, .c (.c (.h_ [7])))],[[1]],[([7], .row 9)]⟩ .n .n)))) (.s (.r [] [] (.j 6 ⟨[1],[(124, .c (.c (.h_ [7])))],[[1]],[([7], .row 9)]⟩ .n .n)) (.s (.r [] [] (.j 4 ⟨[1],[(129, .c (.c (.h_ [7])))],[[1]],[([7], .row 9)]⟩ .n .n)) (.s (.r [] [] (.j 4 ⟨[1],[(134, .c (.c (.h_ [7])))],[[1]],[([7], .row 9)]⟩ .n .n)) (.s (.r [] [] (.j 4 ⟨[],[(139, .c (.c (.h_ [7])))],[],[([7], .row 9)]⟩ .n .n)) .n)))))))))))))))))))) [.s 93] [.k (.str)] (fun x=>Uk x.1) Tryz.func158 rfl (by kernel_rfl)
def cH (a0:A0) (alm:Int):Option (Bool):=
 (IQ a0.Filter).bind fun r11=>
 (some (if r11 then a0.Filter.q_==alm else false)).bind fun b12=>
 some b12
def NL (a0:A0):Option (Bool):=
 (Ix a0.afJ).bind fun r1=>
 (some (if(r1==([]:List UInt8)) then true else decide (a0.Who<0))).bind fun b2=>
 (some (if b2 then true else decide (2<a0.Who))).bind fun b3=>
 (gd (b3==false) (KB a0.afJ)).bind fun r4=>
 (some (if !r4 then a0.Who != 0 else false)).bind fun b5=>
 (if(if b3=true then true else b5) then
  some false
 else
  (LF a0.afJ).bind fun r7=>
  (if !r7 then
   some (a0.Filter==(⟨0,0,0,0,0,0,0,[],0,0,(⟨0,0⟩:Af),(⟨0,0⟩:Af),(⟨0,0⟩:Af)⟩:Aj))
  else
   jn (fun(v:Int)=>cH a0 v) (fun adX=>
   (if a0.afJ==9 then
    adX (5:Int)
   else
    adX (0:Int)))))
def yi:CE TE Tryz.prog I0:=AA [bK,TQ,XN,GW] Aa Ac 9 82 Tryz.f82 (Tryz.f82.body.getD .skip) (.s .n (.s .n (.s .n (.s .n (.j ⟨[1],[(3, .c (.v (.k (.int .i64))))],[[1]],[]⟩ .n .n))))) [.s 98] [.k (.bool)] (fun x=>NL x.1) Tryz.func82 rfl (by kernel_rfl)
def JB (a0:Aj):Option (Bool):=
 (IQ a0).bind fun r1=>
 (some (if r1 then a0.q_==0 else false)).bind fun b2=>
 some b2
def Xn:CE TE Tryz.prog I0:=AA [GW] Aa Ac 9 125 Tryz.f125 (Tryz.f125.body.getD .skip) .n [.s 93] [.k (.bool)] (fun x=>JB x.1) Tryz.func125 rfl (by kernel_rfl)
def KH (a0:Dc):Option (Bool):=
 (if !a0.Object then
  (some (if a0.ab0 then a0.Filter==(⟨0,0,0,0,0,0,0,[],0,0,(⟨0,0⟩:Af),(⟨0,0⟩:Af),(⟨0,0⟩:Af)⟩:Aj)else false)).bind fun b2=>
  some b2
 else
  (IQ a0.Filter).bind fun r3=>
  (some (if a0.Filter.q_==0 then true else a0.Filter.q_==3)).bind fun b4=>
  (some (if b4 then true else a0.Filter.q_==5)).bind fun b5=>
  (some (if r3 then b5 else false)).bind fun b6=>
  some b6)
def rh:CE TE Tryz.prog I0:=AA [GW] Aa Ac 9 126 Tryz.f126 (Tryz.f126.body.getD .skip) .n [.s 167] [.k (.bool)] (fun x=>KH x.1) Tryz.func126 rfl (by kernel_rfl)
def gZ (a0:Ht):Option (Bool):=
 (if a0.Kind==4 then
  (IQ a0.Filter).bind fun r7=>
  some r7
 else
  some (a0.Filter==(⟨0,0,0,0,0,0,0,[],0,0,(⟨0,0⟩:Af),(⟨0,0⟩:Af),(⟨0,0⟩:Af)⟩:Aj)))
def VZ (a0:Ht) (ajU:Int):Option (Bool):=
 (some (if decide (a0.Kind<1) then true else decide (8<a0.Kind))).bind fun b3=>
 (if b3 then
  some false
 else
  jn (fun(v:Unit)=>gZ a0) (fun jJ5=>
  (Nz a0.Kind).bind fun r8=>
  (if r8 then
   (some (if decide (a0.N<1) then true else decide (ajU<a0.N))).bind fun b10=>
   (if b10 then
    some false
   else
    jJ5 ())
  else
   (if a0.N != 0 then
    some false
   else
    jJ5 ()))))
def RN (a0:Ht) (a1:Int):Option (Bool):=
 jn (fun(v:Int)=>VZ a0 v) (fun K_=>
 (if decide (4<a1) then
  K_ (4:Int)
 else
  K_ a1))
def yj:CE TE Tryz.prog I0:=AA [bL,GW] Aa Ac 9 162 Tryz.f162 (Tryz.f162.body.getD .skip) (.s .n (.j ⟨[2],[(1, .c (.v (.k (.int .i64))))],[[2]],[]⟩ .n (.s .n (.j ⟨[2],[],[[2]],[]⟩ .n .n)))) [.s 122, .k (.int .i64)] [.k (.bool)] (fun x=>RN x.1 x.2.1) Tryz.func162 rfl (by kernel_rfl)
def V0 (a0:AY) (ahO:AY):Option (Bool):=
 (some (if decide (0<=a0.Kind) then decide (a0.Kind<=7)else false)).bind fun b3=>
 (some (if b3 then ahO==(⟨a0.Kind,0,0,(⟨0,0,0,0,0,0,0,[],0,0,(⟨0,0⟩:Af),(⟨0,0⟩:Af),(⟨0,0⟩:Af)⟩:Aj)⟩:AY)else false)).bind fun b4=>
 some b4
def RO (a0:AY):Option (Bool):=
 jn (fun(v:AY)=>V0 a0 v) (fun K_=>
 (if a0.Kind==0 then
  (some (if decide (a0.N<0) then true else decide (1000000<a0.N))).bind fun b6=>
  (if b6 then
   some false
  else
   K_ ({a0 with N:=(0:Int)}))
 else
  (if a0.Kind==2 then
   (some (if decide (a0.N<1) then true else decide (99<a0.N))).bind fun b9=>
   (gd (b9==false) (IQ a0.Filter)).bind fun r10=>
   (some (if b9 then true else !r10)).bind fun b11=>
   (if b11 then
    some false
   else
    K_ ({{a0 with N:=(0:Int)}with Filter:=(⟨0,0,0,0,0,0,0,[],0,0,(⟨0,0⟩:Af),(⟨0,0⟩:Af),(⟨0,0⟩:Af)⟩:Aj)}))
  else
   (if a0.Kind==4 then
    (Ph a0.o_).bind fun r14=>
    (if(r14==([]:List UInt8)) then
     some false
    else
     K_ ({a0 with o_:=(0:Int)}))
   else
    K_ a0))))
def yk:CE TE Tryz.prog I0:=AA [GW,bM] Aa Ac 9 164 Tryz.f164 (Tryz.f164.body.getD .skip) (.s .n (.s .n (.j ⟨[1,3],[],[[1]],[([3], .box [.v (.s 124)])]⟩ .n .n))) [.s 124] [.k (.bool)] (fun x=>RO x.1) Tryz.func164 rfl (by kernel_rfl)
def QL (a1:Aj) (alk:Int):Option (Bool):=
 (IQ a1).bind fun r3=>
 (some (if r3 then a1.q_==alk else false)).bind fun b4=>
 some b4
def NM (a0:Int) (a1:Aj):Option (Bool):=
 jn (fun(v:Int)=>QL a1 v) (fun K_=>
 (if a0==21 then
  K_ (2:Int)
 else
  K_ (0:Int)))
def ky:CE TE Tryz.prog I0:=AA [GW] Aa Ac 9 167 Tryz.f167 (Tryz.f167.body.getD .skip) (.s .n (.s .n (.j ⟨[3],[(5, .c (.v (.k (.int .i64))))],[[3]],[]⟩ .n .n))) [.k (.int .i64), .s 93] [.k (.bool)] (fun x=>NM x.1 x.2.1) Tryz.func167 rfl (by kernel_rfl)
end Go.PL
