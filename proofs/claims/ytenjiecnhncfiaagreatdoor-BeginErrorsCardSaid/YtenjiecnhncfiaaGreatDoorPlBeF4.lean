/- Functions of the program, as partial functions in Lean, with proofs. -/
import Derived.Test.YtenjiecnhncfiaaGreatDoorPlBeB
import Derived.Test.YtenjiecnhncfiaaGreatDoorPlBeF0
import Derived.Test.YtenjiecnhncfiaaGreatDoorPlBeF1
import Derived.Test.YtenjiecnhncfiaaGreatDoorPlBeF2
import Derived.Test.YtenjiecnhncfiaaGreatDoorPlBeF3
namespace Go.PL
open Go Go.RowKit Go.Proofs
set_option maxRecDepth 100000
set_option linter.all false
set_option maxHeartbeats 4000000
attribute [local irreducible] Ag Cv Co
def KE (a0:A1) (anU:Bool):Option (Bool):=
 (if anU then
  (II a0.N (1:Int) (131071:Int)).bind fun r21=>
  some r21
 else
  (if a0.Kind==11 then
   (BX a0.Filter).bind fun r23=>
   some r23
  else
   (if a0.Kind==12 then
    (II a0.N (0:Int) (99:Int)).bind fun r25=>
    (gd (r25==true) (II a0.M (0:Int) (99:Int))).bind fun r26=>
    (some (if r25 then r26 else false)).bind fun b27=>
    some b27
   else
    (if a0.Kind==13 then
     (II a0.N (-99:Int) (99:Int)).bind fun r29=>
     (gd (r29==true) (II a0.M (-99:Int) (99:Int))).bind fun r30=>
     (some (if r29 then r30 else false)).bind fun b31=>
     some b31
    else
     some true))))
def KF (a0:A1) (anZ:Bool):Option (Bool):=
 (if anZ then
  (Hx a0.Sub).bind fun r13=>
  some r13
 else
  (if a0.Kind==6 then
   (II a0.N (0:Int) (31:Int)).bind fun r15=>
   some r15
  else
   (if a0.Kind==7 then
    (II a0.N (1:Int) (31:Int)).bind fun r17=>
    some r17
   else
    jn (fun(v:Bool)=>KE a0 v) (fun adV=>
    (if a0.Kind==8 then
     adV (a0.Kind==8)
    else
     adV (a0.Kind==9))))))
def Mx (a0:A1) (ap8:Bool):Option (Bool):=
 (if ap8 then
  (II a0.N (1:Int) (63:Int)).bind fun r8=>
  (some (if r8 then(Fk .i64 a0.N (6:Int))==(0:Int)else false)).bind fun b9=>
  some b9
 else
  jn (fun(v:Bool)=>KF a0 v) (fun aaR=>
  (if a0.Kind==4 then
   aaR (a0.Kind==4)
  else
   aaR (a0.Kind==5))))
def HB (a0:A1):Option (Bool):=
 (II a0.Kind (1:Int) (14:Int)).bind fun r1=>
 (gd ((!r1)==false) (Ml a0)).bind fun r2=>
 (some (if !r1 then true else !(a0==r2))).bind fun b3=>
 (if b3 then
  some false
 else
  jn (fun(v:Bool)=>Mx a0 v) (fun jJ6=>
  (if a0.Kind==2 then
   jJ6 (a0.Kind==2)
  else
   jJ6 (a0.Kind==3))))
def nG:CE TE Tryz.prog I0:=AA [ye,qK,NA,De] Aa Ac 9 181 Tryz.f181 (Tryz.f181.body.getD .skip) (.s .n (.s .n (.s (.s .n (.j ⟨[1,14],[(15, .c (.v (.k (.bool))))],[[1]],[]⟩ .n (.i .n (.j ⟨[1,14],[(27, .c (.v (.k (.bool))))],[[1]],[]⟩ .n (.i .n (.s .n (.i .n (.s .n (.i .n (.j ⟨[1,14],[(43, .c (.v (.k (.bool))))],[[1]],[]⟩ .n .n)))))))))) .n))) [.s 140] [.k (.bool)] (fun x=>HB x.1) Tryz.func181 rfl (by kernel_rfl)
def N7 (agW:List (List UInt8)):Option ((List UInt8)):=
 (if((agW.length:Int)==0) then
  some YN
 else
  (QD agW jD).bind fun r37=>
  some r37)
def N8 (a0:Aj) (agX:List (List UInt8)):Option ((List UInt8)):=
 (CO gG a0.Value).bind fun r33=>
 jn (fun(v:(List (List UInt8)))=>N7 v) (fun as3=>
 (if(r33 != ([]:List UInt8)) then
  (app 16 agX ([r33]:List (List UInt8))).bind fun l39=>
  as3 l39
 else
  as3 agX))
def N9 (a0:Aj) (agY:List (List UInt8)):Option ((List UInt8)):=
 (CO gF a0.v_).bind fun r30=>
 jn (fun(v:(List (List UInt8)))=>N8 a0 v) (fun aot=>
 (if(r30 != ([]:List UInt8)) then
  (app 16 agY ([r30]:List (List UInt8))).bind fun l41=>
  aot l41
 else
  aot agY))
def Oa (a0:Aj) (agZ:List (List UInt8)):Option ((List UInt8)):=
 (CO gE a0.Power).bind fun r27=>
 jn (fun(v:(List (List UInt8)))=>N9 a0 v) (fun amP=>
 (if(r27 != ([]:List UInt8)) then
  (app 16 agZ ([r27]:List (List UInt8))).bind fun l43=>
  amP l43
 else
  amP agZ))
def Ob (a0:Aj) (ag0:List (List UInt8)):Option ((List UInt8)):=
 (idx (⟨([]:List UInt8),No,Je⟩:A3 (List UInt8)).l a0.Tap).bind fun e24=>
 jn (fun(v:(List (List UInt8)))=>Oa a0 v) (fun as7=>
 (if(e24 != ([]:List UInt8)) then
  (app 16 ag0 ([e24]:List (List UInt8))).bind fun l45=>
  as7 l45
 else
  as7 ag0))
def XU (adh:Int) (aj_:List (List UInt8)):Option ((Int×(List (List UInt8)))⊕((List (List UInt8)))):=
 some (.inl ((Ad (adh+1)),aj_))
def DR (adh:Int) (acD:List (List UInt8)) (an1:List UInt8):Option ((Int×(List (List UInt8)))⊕((List (List UInt8)))):=
 (cat Mh an1).bind fun s58=>
 jn (fun(v:(List (List UInt8)))=>XU adh v) (fun as0=>
 (if(s58 != ([]:List UInt8)) then
  (app 16 acD ([s58]:List (List UInt8))).bind fun l62=>
  as0 l62
 else
  as0 acD))
def IL (ac9:((List UInt8))->Option ((Int×(List (List UInt8)))⊕((List (List UInt8))))) (anO:List UInt8):Option ((Int×(List (List UInt8)))⊕((List (List UInt8)))):=
 (BR ([anO,Mg]:List (List UInt8))).bind fun r68=>
 (cat r68 Pa).bind fun s69=>
 ac9 s69
def IM (ac9:((List UInt8))->Option ((Int×(List (List UInt8)))⊕((List (List UInt8))))) (anN:List UInt8):Option ((Int×(List (List UInt8)))⊕((List (List UInt8)))):=
 (BR ([anN,Hv]:List (List UInt8))).bind fun r72=>
 (cat r72 O8).bind fun s73=>
 ac9 s73
def FE (r46:(List (Int))) (adh:Int) (acD:List (List UInt8)):Option ((Int×(List (List UInt8)))⊕((List (List UInt8)))):=
 (if(decide (adh<(r46.length:Int))) then
  (idx r46 adh).bind fun e55=>
  jn (fun(v:(List UInt8))=>DR adh acD v) (fun ac9=>
  (some (if decide (e55<0) then true else decide (17<=e55))).bind fun b63=>
  (if b63 then
   ac9 ([]:List UInt8)
  else
   (n_ (0<=e55)).bind fun u65=>
   jn (fun(v:(List UInt8))=>IL ac9 v) (fun akg=>
   jn (fun(v:(List UInt8))=>IM ac9 v) (fun asY=>
   (if((Ad ((1:Int)*2 ^ (min (e55).toNat (IntKind.i64).bits)))==(1:Int)) then
    ac9 Rv
   else
    (if((Ad ((1:Int)*2 ^ (min (e55).toNat (IntKind.i64).bits)))==(2:Int)) then
     ac9 Vq
    else
     (if((Ad ((1:Int)*2 ^ (min (e55).toNat (IntKind.i64).bits)))==(4:Int)) then
      ac9 Vr
     else
      (if((Ad ((1:Int)*2 ^ (min (e55).toNat (IntKind.i64).bits)))==(8:Int)) then
       ac9 Nh
      else
       (if((Ad ((1:Int)*2 ^ (min (e55).toNat (IntKind.i64).bits)))==(16:Int)) then
        ac9 O7
       else
        (if((Ad ((1:Int)*2 ^ (min (e55).toNat (IntKind.i64).bits)))==(32:Int)) then
         asY P6
        else
         (if((Ad ((1:Int)*2 ^ (min (e55).toNat (IntKind.i64).bits)))==(64:Int)) then
          asY ([]:List UInt8)
         else
          (if((Ad ((1:Int)*2 ^ (min (e55).toNat (IntKind.i64).bits)))==(128:Int)) then
           ac9 Rx
          else
           (if((Ad ((1:Int)*2 ^ (min (e55).toNat (IntKind.i64).bits)))==(256:Int)) then
            ac9 Ni
           else
            (if((Ad ((1:Int)*2 ^ (min (e55).toNat (IntKind.i64).bits)))==(512:Int)) then
             ac9 Ry
            else
             (if((Ad ((1:Int)*2 ^ (min (e55).toNat (IntKind.i64).bits)))==(1024:Int)) then
              ac9 Nj
             else
              (if((Ad ((1:Int)*2 ^ (min (e55).toNat (IntKind.i64).bits)))==(2048:Int)) then
               ac9 Rz
              else
               (if((Ad ((1:Int)*2 ^ (min (e55).toNat (IntKind.i64).bits)))==(4096:Int)) then
                ac9 RA
               else
                (if((Ad ((1:Int)*2 ^ (min (e55).toNat (IntKind.i64).bits)))==(8192:Int)) then
                 ac9 O9
                else
                 (if((Ad ((1:Int)*2 ^ (min (e55).toNat (IntKind.i64).bits)))==(16384:Int)) then
                  akg jB
                 else
                  (if((Ad ((1:Int)*2 ^ (min (e55).toNat (IntKind.i64).bits)))==(65536:Int)) then
                   akg ([]:List UInt8)
                  else
                   ac9 Nk))))))))))))))))))))
 else
  some (.inr acD))
def IP (a0:Aj) (aka:List (List UInt8)):Option ((List UInt8)):=
 jn (fun(v:(List (List UInt8)))=>Ob a0 v) (fun aqD=>
 (Ft a0.Keys).bind fun r46=>
 (iter (fun(v:Int×(List (List UInt8)))=>FE r46 v.1 v.2) FU ((0:Int),aka)).bind (fun o0=>aqD o0))
def Oc (ago:((List (List UInt8)))->Option ((List UInt8))) (aj9:List (List UInt8)):Option ((List UInt8)):=
 ago aj9
def Od (a0:Aj) (aeS:List (List UInt8)):Option ((List UInt8)):=
 jn (fun(v:(List (List UInt8)))=>IP a0 v) (fun ago=>
 (if(a0.Sub != ([]:List UInt8)) then
  (cat HR a0.Sub).bind fun s91=>
  jn (fun(v:(List (List UInt8)))=>Oc ago v) (fun asU=>
  (if(s91 != ([]:List UInt8)) then
   (app 16 aeS ([s91]:List (List UInt8))).bind fun l95=>
   asU l95
  else
   asU aeS))
 else
  ago aeS))
def VR (acz:Int) (ai1:List (List UInt8)):Option ((Int×(List (List UInt8)))⊕((List (List UInt8)))):=
 some (.inl ((Ad (acz+1)),ai1))
def HC (acz:Int) (ab8:List (List UInt8)) (amo:List UInt8):Option ((Int×(List (List UInt8)))⊕((List (List UInt8)))):=
 (cat GG amo).bind fun asp=>
 jn (fun(v:(List (List UInt8)))=>VR acz v) (fun akX=>
 (if(asp != ([]:List UInt8)) then
  (app 16 ab8 ([asp]:List (List UInt8))).bind fun awP=>
  akX awP
 else
  akX ab8))
def EW (r96:(List (Int))) (acz:Int) (ab8:List (List UInt8)):Option ((Int×(List (List UInt8)))⊕((List (List UInt8)))):=
 (if(decide (acz<(r96.length:Int))) then
  (idx r96 acz).bind fun alS=>
  jn (fun(v:(List UInt8))=>HC acz ab8 v) (fun apo=>
  (some (if decide (alS<0) then true else decide (5<=alS))).bind fun ayX=>
  (if ayX then
   apo ([]:List UInt8)
  else
   (n_ (0<=alS/\alS<((5:Nat):Int))).bind fun avH=>
   (n_ (alS.toNat<Eu.length)).bind fun avG=>
   apo (Eu.getD alS.toNat [])))
 else
  some (.inr ab8))
def Oe (a0:Aj) (akb:List (List UInt8)):Option ((List UInt8)):=
 jn (fun(v:(List (List UInt8)))=>Od a0 v) (fun adV=>
 (Ft a0.r_).bind fun r96=>
 (iter (fun(v:Int×(List (List UInt8)))=>EW r96 v.1 v.2) FU ((0:Int),akb)).bind (fun o0=>adV o0))
def VS (acy:Int) (ai0:List (List UInt8)):Option ((Int×(List (List UInt8)))⊕((List (List UInt8)))):=
 some (.inl ((Ad (acy+1)),ai0))
def HD (acy:Int) (ab7:List (List UInt8)) (amn:List UInt8):Option ((Int×(List (List UInt8)))⊕((List (List UInt8)))):=
 (cat ([]:List UInt8) amn).bind fun aso=>
 jn (fun(v:(List (List UInt8)))=>VS acy v) (fun apl=>
 (if(aso != ([]:List UInt8)) then
  (app 16 ab7 ([aso]:List (List UInt8))).bind fun awI=>
  apl awI
 else
  apl ab7))
def EX (aol:(List (Int))) (acy:Int) (ab7:List (List UInt8)):Option ((Int×(List (List UInt8)))⊕((List (List UInt8)))):=
 (if(decide (acy<(aol.length:Int))) then
  (idx aol acy).bind fun akt=>
  jn (fun(v:(List UInt8))=>HD acy ab7 v) (fun apm=>
  (some (if decide (akt<0) then true else decide (5<=akt))).bind fun ayW=>
  (if ayW then
   apm ([]:List UInt8)
  else
   (n_ (0<=akt/\akt<((5:Nat):Int))).bind fun aCL=>
   (n_ (akt.toNat<Eu.length)).bind fun aCK=>
   apm (Eu.getD akt.toNat [])))
 else
  some (.inr ab7))
def Of (a0:Aj) (akc:List (List UInt8)):Option ((List UInt8)):=
 jn (fun(v:(List (List UInt8)))=>Oe a0 v) (fun alH=>
 (Ft a0.Tj).bind fun aol=>
 (iter (fun(v:Int×(List (List UInt8)))=>EX aol v.1 v.2) FU ((0:Int),akc)).bind (fun o0=>alH o0))
def VU (adL:Int) (aiZ:List (List UInt8)):Option ((Int×(List (List UInt8)))⊕((List (List UInt8)))):=
 some (.inl ((Ad (adL+1)),aiZ))
def EY (aok:(List (Int))) (adL:Int) (adT:List (List UInt8)):Option ((Int×(List (List UInt8)))⊕((List (List UInt8)))):=
 (if(decide (adL<(aok.length:Int))) then
  (idx aok adL).bind fun at6=>
  (n_ (0<=at6)).bind fun avF=>
  (Cs (Ad ((1:Int)*2 ^ (min (at6).toNat (IntKind.i64).bits)))).bind fun av9=>
  (cat GG av9).bind fun asn=>
  jn (fun(v:(List (List UInt8)))=>VU adL v) (fun apk=>
  (if(asn != ([]:List UInt8)) then
   (app 16 adT ([asn]:List (List UInt8))).bind fun awH=>
   apk awH
  else
   apk adT))
 else
  some (.inr adT))
def Og (a0:Aj) (akd:List (List UInt8)):Option ((List UInt8)):=
 jn (fun(v:(List (List UInt8)))=>Of a0 v) (fun adl=>
 (Ft a0.w_).bind fun aok=>
 (iter (fun(v:Int×(List (List UInt8)))=>EY aok v.1 v.2) FU ((0:Int),akd)).bind (fun o0=>adl o0))
def VV (adK:Int) (aiY:List (List UInt8)):Option ((Int×(List (List UInt8)))⊕((List (List UInt8)))):=
 some (.inl ((Ad (adK+1)),aiY))
def EZ (aoj:(List (Int))) (adK:Int) (adS:List (List UInt8)):Option ((Int×(List (List UInt8)))⊕((List (List UInt8)))):=
 (if(decide (adK<(aoj.length:Int))) then
  (idx aoj adK).bind fun ara=>
  (n_ (0<=ara)).bind fun aCG=>
  (Cs (Ad ((1:Int)*2 ^ (min (ara).toNat (IntKind.i64).bits)))).bind fun av3=>
  (cat ([]:List UInt8) av3).bind fun asm=>
  jn (fun(v:(List (List UInt8)))=>VV adK v) (fun api=>
  (if(asm != ([]:List UInt8)) then
   (app 16 adS ([asm]:List (List UInt8))).bind fun awF=>
   api awF
  else
   api adS))
 else
  some (.inr adS))
def Oh (a0:Aj) (ake:List (List UInt8)):Option ((List UInt8)):=
 jn (fun(v:(List (List UInt8)))=>Og a0 v) (fun aez=>
 (Ft a0.Types).bind fun aoj=>
 (iter (fun(v:Int×(List (List UInt8)))=>EZ aoj v.1 v.2) FU ((0:Int),ake)).bind (fun o0=>aez o0))
def Pu (a0:Aj) (ahV:List (List UInt8)):Option ((List UInt8)):=
 (idx (⟨([]:List UInt8),bb,Vt⟩:A3 (List UInt8)).l a0.Self).bind fun e9=>
 jn (fun(v:(List (List UInt8)))=>Oh a0 v) (fun aaR=>
 (if(e9 != ([]:List UInt8)) then
  (app 16 ahV ([e9]:List (List UInt8))).bind fun awE=>
  aaR awE
 else
  aaR ahV))
def Pv (a0:Aj) (ahW:List (List UInt8)):Option ((List UInt8)):=
 (idx (⟨([]:List UInt8),Vs,RB⟩:A3 (List UInt8)).l a0.Who).bind fun e6=>
 jn (fun(v:(List (List UInt8)))=>Pu a0 v) (fun jJ8=>
 (if(e6 != ([]:List UInt8)) then
  (app 16 ahW ([e6]:List (List UInt8))).bind fun awD=>
  jJ8 awD
 else
  jJ8 ahW))
def IA (a0:Aj):Option ((List UInt8)):=
 (BX a0).bind fun r1=>
 (if !r1 then
  some ([]:List UInt8)
 else
  (IJ a0.q_).bind fun r3=>
  jn (fun(v:(List (List UInt8)))=>Pv a0 v) (fun jJ5=>
  (if(r3 != ([]:List UInt8)) then
   (app 16 ([]:List (List UInt8)) ([r3]:List (List UInt8))).bind fun awC=>
   jJ5 awC
  else
   jJ5 ([]:List (List UInt8)))))
def QK:CE TE Tryz.prog I0:=AA [De,TC,RC,Mw,AeG,NZ,RG,jN] Aa Ac 9 187 Tryz.f187 (Tryz.f187.body.getD .skip) (.s .n (.s .n (.s (.r [] [([9],0,[1000,9],9)] .n) (.s .n (.s (.r [] [] (.j 4 ⟨[1,3,4],[],[[1]],[([9], .box [.c (.h_ [1000,9])]),([1000,9], .row 9)]⟩ (.s (.r [] [] (.g 0 (.ug [1,3,4]) .n)) .n) .n)) (.s (.r [] [] (.j 5 ⟨[1,3,4],[],[[1]],[([9], .box [.c (.h_ [1000,9])]),([1000,9], .row 9)]⟩ (.s (.r [] [] (.g 0 (.ug [1,3,4]) .n)) .n) .n)) (.s (.r [] [] (.j 5 ⟨[1,3,4],[],[[1]],[([9], .box [.c (.h_ [1000,9])]),([1000,9], .row 9)]⟩ (.s (.r [] [] (.g 0 (.ug [1,3,4]) .n)) .n) .n)) (.s (.r [] [] (.j 3 ⟨[1,3,4],[],[[1]],[([9], .box [.c (.h_ [1000,9])]),([1000,9], .row 9)]⟩ (.s (.r [] [] (.g 0 (.ug [1,3,4]) .n)) (.l ⟨[0,2,3,11,12],[(13, .c (.v (.k (.int .i64))))],[[1]],[([9], .box [.c (.h_ [1000,9])]),([1000,9], .row 9)]⟩ [(1,⟨[],[],[[1]],[([9], .box [.c (.h_ [1000,9])]),([1000,9], .row 9)]⟩)] (.s .n (.s .n (.s (.s .n (.r [] [] (.c 4 (.s (.r [] [] (.g 0 (.ug [0,2,3,11,12,13,17,18,21]) .n)) .n) (.j 6 ⟨[0,2,3,11,12,13],[],[[1]],[([9], .box [.c (.h_ [1000,9])]),([1000,9], .row 9)]⟩ (.s (.r [] [] (.g 0 (.ug [0,2,3,11,12,13]) .n)) .n) .n)))) .n))))) .n)) (.s (.r [] [] (.j 3 ⟨[1,3,4],[],[[1]],[([9], .box [.c (.h_ [1000,9])]),([1000,9], .row 9)]⟩ (.s (.r [] [] (.g 0 (.ug [1,3,4]) .n)) (.l ⟨[0,2,3,11,12],[(13, .c (.v (.k (.int .i64))))],[[1]],[([9], .box [.c (.h_ [1000,9])]),([1000,9], .row 9)]⟩ [(1,⟨[],[],[[1]],[([9], .box [.c (.h_ [1000,9])]),([1000,9], .row 9)]⟩)] (.s .n (.s .n (.s (.s .n (.r [] [] (.c 4 (.s (.r [] [] (.g 0 (.ug [0,2,3,11,12,13,17,18,21]) .n)) .n) (.j 6 ⟨[0,2,3,11,12,13],[],[[1]],[([9], .box [.c (.h_ [1000,9])]),([1000,9], .row 9)]⟩ (.s (.r [] [] (.g 0 (.ug [0,2,3,11,12,13]) .n)) .n) .n)))) .n))))) .n)) (.s (.r [] [] (.j 3 ⟨[1,3,4],[],[[1]],[([9], .box [.c (.h_ [1000,9])]),([1000,9], .row 9)]⟩ (.s (.r [] [] (.g 0 (.ug [1,3,4]) .n)) (.l ⟨[0,2,3,11,12],[(13, .c (.v (.k (.int .i64))))],[[1]],[([9], .box [.c (.h_ [1000,9])]),([1000,9], .row 9)]⟩ [(1,⟨[],[],[[1]],[([9], .box [.c (.h_ [1000,9])]),([1000,9], .row 9)]⟩)] (.s .n (.s .n (.s (.s .n (.r [] [] (.j 4 ⟨[0,2,3,11,12,13,17,18],[(21, .c (.v (.k (.str))))],[[1],[9],[1000,9]],[]⟩ (.s (.r [] [] (.g 0 (.ug [0,2,3,11,12,13,17,18,21]) .n)) (.s .n (.s (.r [] [] (.q 1 .ga (.q 2 .gl .n))) .n))) (.j 6 ⟨[0,2,3,11,12,13],[],[[1]],[([9], .box [.c (.h_ [1000,9])]),([1000,9], .row 9)]⟩ (.s (.r [] [] (.g 0 (.ug [0,2,3,11,12,13]) .n)) .n) .n)))) .n))))) .n)) (.s (.r [] [] (.j 3 ⟨[1,3,4],[],[[1]],[([9], .box [.c (.h_ [1000,9])]),([1000,9], .row 9)]⟩ (.s (.r [] [] (.g 0 (.ug [1,3,4]) .n)) (.l ⟨[0,2,3,11,12],[(13, .c (.v (.k (.int .i64))))],[[1]],[([9], .box [.c (.h_ [1000,9])]),([1000,9], .row 9)]⟩ [(1,⟨[],[],[[1]],[([9], .box [.c (.h_ [1000,9])]),([1000,9], .row 9)]⟩)] (.s .n (.s .n (.s (.s .n (.r [] [] (.j 4 ⟨[0,2,3,11,12,13,17,18],[(21, .c (.v (.k (.str))))],[[1],[9],[1000,9]],[]⟩ (.s (.r [] [] (.g 0 (.ug [0,2,3,11,12,13,17,18,21]) .n)) (.s .n (.s (.r [] [] (.q 1 .ga (.q 2 .gl .n))) .n))) (.j 6 ⟨[0,2,3,11,12,13],[],[[1]],[([9], .box [.c (.h_ [1000,9])]),([1000,9], .row 9)]⟩ (.s (.r [] [] (.g 0 (.ug [0,2,3,11,12,13]) .n)) .n) .n)))) .n))))) .n)) (.j ⟨[1,3,4],[],[[1]],[([9], .box [.c (.h_ [1000,9])]),([1000,9], .row 9)]⟩ (.s .n (.i (.r [] [] (.j 4 ⟨[1,3,4],[],[[1]],[([9], .box [.c (.h_ [1000,9])]),([1000,9], .row 9)]⟩ (.s (.r [] [] (.g 0 (.ug [1,3,4]) .n)) .n) .n)) .n)) (.s (.r [] [] (.j 3 ⟨[1,3,4],[],[[1]],[([9], .box [.c (.h_ [1000,9])]),([1000,9], .row 9)]⟩ (.s (.r [] [] (.g 0 (.ug [1,3,4]) .n)) (.l ⟨[0,2,3,11,12],[(13, .c (.v (.k (.int .i64))))],[[1]],[([9], .box [.c (.h_ [1000,9])]),([1000,9], .row 9)]⟩ [(1,⟨[],[],[[1]],[([9], .box [.c (.h_ [1000,9])]),([1000,9], .row 9)]⟩)] (.s .n (.s .n (.s (.s .n (.r [] [] (.j 4 ⟨[0,2,3,11,12,13,17,18],[(21, .c (.v (.k (.str))))],[[1],[9],[1000,9]],[]⟩ (.s (.r [] [] (.g 0 (.ug [0,2,3,11,12,13,17,18,21]) .n)) (.s .n (.s .n (.s (.s .n (.j ⟨[],[(3, .c (.v (.k (.str))))],[[1],[9],[1000,9]],[]⟩ (.s (.s (.s (.s (.s (.s (.s (.s (.j ⟨[],[(3, .c (.v (.k (.str))))],[[1],[9],[1000,9]],[]⟩ .n .n) .n) .n) .n) .n) .n) .n) .n) .n) .n)) .n)))) (.j 6 ⟨[0,2,3,11,12,13],[],[[1]],[([9], .box [.c (.h_ [1000,9])]),([1000,9], .row 9)]⟩ (.s (.r [] [] (.g 0 (.ug [0,2,3,11,12,13]) .n)) .n) .n)))) .n))))) .n)) (.s (.r [] [] (.j 5 ⟨[1,3,4],[],[[1]],[([9], .box [.c (.h_ [1000,9])]),([1000,9], .row 9)]⟩ (.s (.r [] [] (.g 0 (.ug [1,3,4]) .n)) .n) .n)) (.s (.r [] [] (.j 4 ⟨[1,3,4],[],[[1]],[([9], .box [.c (.h_ [1000,9])]),([1000,9], .row 9)]⟩ (.s (.r [] [] (.g 0 (.ug [1,3,4]) .n)) .n) .n)) (.s (.r [] [] (.j 4 ⟨[1,3,4],[],[[1]],[([9], .box [.c (.h_ [1000,9])]),([1000,9], .row 9)]⟩ (.s (.r [] [] (.g 0 (.ug [1,3,4]) .n)) .n) .n)) (.s (.r [] [] (.j 4 ⟨[3],[],[],[([9], .box [.c (.h_ [1000,9])]),([1000,9], .row 9)]⟩ (.s (.r [] [] (.g 0 (.ug [3]) .n)) .n) .n)) .n))))))))))))))))) [.s 93] [.k (.str)] (fun x=>IA x.1) Tryz.func187 rfl (by kernel_rfl)
def GV (a0:Au) (anW:Bool):Option (Bool):=
 (if anW then
  (some (if decide (1<=a0.N) then decide (a0.N<=99)else false)).bind fun b13=>
  some b13
 else
  (if a0.Do==7 then
   (some (if decide (1<=a0.N) then decide (a0.N<=99)else false)).bind fun b15=>
   (gd (b15==true) (EO a0.o_)).bind fun r16=>
   (some (if b15 then r16 != ([]:List UInt8)else false)).bind fun b17=>
   some b17
  else
   (if a0.Do==5 then
    (some (if a0.q_==1 then true else a0.q_==2)).bind fun b19=>
    (some (if b19 then true else a0.q_==4)).bind fun b20=>
    some b20
   else
    some true)))
def CC (a0:Au):Option (Bool):=
 (CJ a0.On a0.Do).bind fun r1=>
 (gd ((!r1)==false) (Ew a0)).bind fun r2=>
 (some (if !r1 then true else !(a0==r2))).bind fun b3=>
 (some (if b3 then true else decide (a0.Who<0))).bind fun b4=>
 (some (if b4 then true else decide (2<a0.Who))).bind fun b5=>
 (if b5 then
  some false
 else
  (BX a0.Filter).bind fun r7=>
  (some (if !r7 then true else a0.Filter.q_ != 0)).bind fun b8=>
  (if b8 then
   some false
  else
   jn (fun(v:Bool)=>GV a0 v) (fun aaR=>
   (if a0.Do==2 then
    aaR (a0.Do==2)
   else
    aaR (a0.Do==4)))))
def kp:CE TE Tryz.prog I0:=AA [bp,VB,De,Kw] Aa Ac 9 147 Tryz.f147 (Tryz.f147.body.getD .skip) (.s .n (.s .n (.s .n (.s (.s .n (.j ⟨[1,36],[(37, .c (.v (.k (.bool))))],[[1]],[]⟩ .n .n)) .n)))) [.s 102] [.k (.bool)] (fun x=>CC x.1) Tryz.func147 rfl (by kernel_rfl)
def Qg (a0:Ht) (a1:Int) (aeG:Bool) (ahC:Bool):Option (Bool):=
 (some (if decide (a0.N<1) then true else decide ((if 4<a1 then(4:Int)else a1)<a0.N))).bind fun b4=>
 (some (if aeG then b4 else false)).bind fun b5=>
 (some (if !aeG then a0.N != 0 else false)).bind fun b6=>
 (if(if b5=true then true else b6) then
  some false
 else
  (if ahC then
   (BX a0.Filter).bind fun r9=>
   some r9
  else
   some (a0.Filter==(⟨0,0,0,0,0,0,0,[],0,0,(⟨0,0⟩:Af),(⟨0,0⟩:Af),(⟨0,0⟩:Af)⟩:Aj))))
def RK (jJ3:(Bool×Bool)->Option (Bool)):Option (Bool):=
 jJ3 (true,false)
def NG (a0:Ht) (jJ3:(Bool×Bool)->Option (Bool)) (adX:(Unit)->Option (Bool)) (apX:Bool):Option (Bool):=
 (if apX then
  jJ3 (false,false)
 else
  (if a0.Kind==3 then
   adX ()
  else
   (if a0.Kind==8 then
    adX ()
   else
    (if a0.Kind==4 then
     jJ3 (false,true)
    else
     some false))))
def KG (a0:Ht) (a1:Int):Option (Bool):=
 jn (fun(v:Bool×Bool)=>Qg a0 a1 v.1 v.2) (fun jJ3=>
 jn (fun(v:Unit)=>RK jJ3) (fun adX=>
 jn (fun(v:Bool)=>NG a0 jJ3 adX v) (fun afs=>
 (if a0.Kind==1 then
  afs (a0.Kind==1)
 else
  (if a0.Kind==2 then
   afs (a0.Kind==2)
  else
   (if a0.Kind==5 then
    afs (a0.Kind==5)
   else
    (if a0.Kind==6 then
     afs (a0.Kind==6)
    else
     afs (a0.Kind==7))))))))
def yg:CE TE Tryz.prog I0:=AA [De] Aa Ac 9 230 Tryz.f230 (Tryz.f230.body.getD .skip) (.s .n (.s .n (.j ⟨[1,2],[(5, .c (.v (.k (.bool)))),(6, .c (.v (.k (.bool))))],[[2]],[]⟩ (.s .n (.s (.s (.j ⟨[1,2,6],[],[[2]],[]⟩ (.s (.s (.s (.j ⟨[1,2,5,6,8],[(9, .c (.v (.k (.bool))))],[[2]],[]⟩ .n .n) .n) .n) .n) .n) .n) .n)) .n))) [.s 122, .k (.int .i64)] [.k (.bool)] (fun x=>KG x.1 x.2.1) Tryz.func230 rfl (by kernel_rfl)
def D1 (a0:AY):Option (Bool):=
 (some (if decide (a0.Kind<0) then true else decide (7<a0.Kind))).bind fun b1=>
 (gd (b1==false) (Lg a0)).bind fun r2=>
 (some (if b1 then true else !(r2==(⟨0,0,0,(⟨0,0,0,0,0,0,0,[],0,0,(⟨0,0⟩:Af),(⟨0,0⟩:Af),(⟨0,0⟩:Af)⟩:Aj)⟩:AY)))).bind fun b3=>
 (if b3 then
  some false
 else
  (if a0.Kind==0 then
   (some (if decide (0<=a0.N) then decide (a0.N<=1000000)else false)).bind fun b6=>
   some b6
  else
   (if a0.Kind==2 then
    (some (if decide (1<=a0.N) then decide (a0.N<=99)else false)).bind fun b8=>
    (gd (b8==true) (BX a0.Filter)).bind fun r9=>
    (some (if b8 then r9 else false)).bind fun b10=>
    some b10
   else
    (if a0.Kind==4 then
     (EO a0.o_).bind fun r12=>
     some (r12 != ([]:List UInt8))
    else
     some true))))
def nH:CE TE Tryz.prog I0:=AA [dG,De,Kw] Aa Ac 9 231 Tryz.f231 (Tryz.f231.body.getD .skip) .n [.s 124] [.k (.bool)] (fun x=>D1 x.1) Tryz.func231 rfl (by kernel_rfl)
def HZ (a0:A0) (r3:Bool×Bool) (alj:Int):Option (Bool):=
 (if r3.2 then
  (BX a0.Filter).bind fun r11=>
  (some (if r11 then a0.Filter.q_==alj else false)).bind fun b12=>
  some b12
 else
  some (a0.Filter==(⟨0,0,0,0,0,0,0,[],0,0,(⟨0,0⟩:Af),(⟨0,0⟩:Af),(⟨0,0⟩:Af)⟩:Aj)))
def CD (a0:A0):Option (Bool):=
 (some (if decide (a0.afJ<1) then true else decide (14<a0.afJ))).bind fun b1=>
 (if b1 then
  some false
 else
  (DJ a0.afJ).bind fun r3=>
  (some (if !r3.1 then a0.Who != 0 else false)).bind fun b4=>
  (gd (b4==false) (DQ a0.Who)).bind fun r5=>
  (some (if b4 then true else r5==([]:List UInt8))).bind fun b6=>
  (if b6 then
   some false
  else
   jn (fun(v:Int)=>HZ a0 r3 v) (fun jJ9=>
   (if a0.afJ==9 then
    jJ9 (5:Int)
   else
    jJ9 (0:Int)))))
def kq:CE TE Tryz.prog I0:=AA [br,TI,De] Aa Ac 9 151 Tryz.f151 (Tryz.f151.body.getD .skip) (.s .n (.s .n (.s .n (.s .n (.s .n (.j ⟨[1,4],[(5, .c (.v (.k (.int .i64))))],[[1]],[]⟩ .n .n)))))) [.s 98] [.k (.bool)] (fun x=>CD x.1) Tryz.func151 rfl (by kernel_rfl)
def ci (aqt:List (Int)):Option ((List (Int))):=
 some aqt
def Xj (a0:Ao):Option ((List (Int))):=
 (T3 a0 a0.abK).bind fun r1=>
 jn (fun(v:(List (Int)))=>ci v) (fun jJ3=>
 (Nw a0).bind fun r4=>
 (Dx r4 a0.abK).bind fun r5=>
 (if r5 then
  (app 8 ([a0.abK]:List (Int)) r1).bind fun l7=>
  jJ3 l7
 else
  jJ3 r1))
def ek:CE TE Tryz.prog I0:=AA [ce,Pe,Fb] Aa Ac 9 28 Tryz.f28 (Tryz.f28.body.getD .skip) (.s .n (.s .n (.j ⟨[],[(3, .c (.v (.k (.u_ 3))))],[],[]⟩ (.s (.r [] [] (.t (.q 0 .lz .n))) .n) .n))) [.s 36] [.k (.u_ 3)] (fun x=>Xj x.1) Tryz.func28 rfl (by kernel_rfl)
def em (r2:Ao) (aab:Int) (Td:Int) (aac:Int) (Tq:Bool) (F_:Int) (Tc:Int) (J_:Int) (AT:Int) (aad:Int) (aae:Int) (Tb:Int) (aaQ:List (Bd)) (r62:Ar) (l73:List (Ar)) (aj3:Int) (aeU:List (Ay)):Option (Ao×Int):=
 some ((⟨aeU,l73,r2.aaP,r2.agm,aaQ,r2.acU,r2.agn,aab,Td,aac,Tq,F_,Tc,Ad (J_+1),Ad (AT+1),aad,r2.Extra,aae,Tb⟩:Ao),r62.Id)
def ep (a2:Int) (a4:Bool) (r2:Ao) (t_:List (Ar)) (d_:Int) (bk:List (Ay)) (aab:Int) (Td:Int) (aac:Int) (Tq:Bool) (F_:Int) (Tc:Int) (J_:Int) (AT:Int) (aad:Int) (aae:Int) (Tb:Int) (aaQ:List (Bd)) (r62:Ar) (ag3:Int):Option (Ao×Int):=
 (n_ (0<=ag3/\ag3<=((t_.length:Nat):Int)/\((t_.length:Nat):Int)<=((t_.length:Nat):Int)/\0<t_.length)).bind fun u70=>
 (if((([r62]:List (Ar)).length :Int)==0) then
  none
 else
  (if(ag3==(t_.length:Int)) then
   (app 128 t_ ([r62]:List (Ar))).bind fun l73=>
   jn (fun(v:Int×(List (Ay)))=>em r2 aab Td aac Tq F_ Tc J_ AT aad aae Tb aaQ r62 l73 v.1 v.2) (fun alF=>
   (if a2==0 then
    none
   else
    (if a2==4 then
     none
    else
     (some (if decide (r62.C_<0) then true else decide ((bk.length:Int)<=r62.C_))).bind fun b79=>
     (if b79 then
      none
     else
      (idx bk r62.C_).bind fun e81=>
      (if a2==1 then
       (if true then
        (some (if a2==2 then !a4 else false)).bind fun b84=>
        (if b84 then
         (idx bk r62.C_).bind fun e86=>
         (n_ (r62.C_<d_)).bind fun u87=>
         (n_ (0<=(0:Int)/\(0:Int)<=((e86.Hand.length:Nat):Int)/\0<([r62.Id]:List (Int)).length /\(e86.Hand.length+([r62.Id]:List (Int)).length)*8<=140737488355328)).bind fun u88=>
         (idx bk r62.C_).bind fun e89=>
         (n_ (r62.C_<d_)).bind fun u90=>
         (n_ (r62.C_=r62.C_)).bind fun u91=>
         (some (bk.set (r62.C_).toNat ({e89 with Hand:=(e86.Hand.take (0:Int).toNat ++(([r62.Id]:List (Int))++e86.Hand.drop (0:Int).toNat))}))).bind fun l92=>
         alF (d_,l92)
        else
         (idx bk r62.C_).bind fun e93=>
         (n_ (r62.C_<d_)).bind fun u94=>
         (app 8 e93.Hand ([r62.Id]:List (Int))).bind fun l95=>
         (idx bk r62.C_).bind fun e96=>
         (n_ (r62.C_<d_)).bind fun u97=>
         (n_ (r62.C_=r62.C_)).bind fun u98=>
         (some (bk.set (r62.C_).toNat ({e96 with Hand:=l95}))).bind fun l99=>
         alF (d_,l99))
       else
        alF (d_,bk))
      else
       (if a2==2 then
        (if true then
         (some (if a2==2 then !a4 else false)).bind fun ayY=>
         (if ayY then
          (idx bk r62.C_).bind fun aoO=>
          (n_ (r62.C_<d_)).bind fun aCR=>
          (n_ (0<=(0:Int)/\(0:Int)<=((aoO.aap.length:Nat):Int)/\0<([r62.Id]:List (Int)).length /\(aoO.aap.length+([r62.Id]:List (Int)).length)*8<=140737488355328)).bind fun aCQ=>
          (idx bk r62.C_).bind fun ayp=>
          (n_ (r62.C_<d_)).bind fun aCP=>
          (n_ (r62.C_=r62.C_)).bind fun aCO=>
          (some (bk.set (r62.C_).toNat ({ayp with aap:=(aoO.aap.take (0:Int).toNat ++(([r62.Id]:List (Int))++aoO.aap.drop (0:Int).toNat))}))).bind fun awR=>
          alF (d_,awR)
         else
          (idx bk r62.C_).bind fun arb=>
          (n_ (r62.C_<d_)).bind fun aCN=>
          (app 8 arb.aap ([r62.Id]:List (Int))).bind fun awO=>
          (idx bk r62.C_).bind fun ayo=>
          (n_ (r62.C_<d_)).bind fun avH=>
          (n_ (r62.C_=r62.C_)).bind fun avG=>
          (some (bk.set (r62.C_).toNat ({ayo with aap:=awO}))).bind fun awN=>
          alF (d_,awN))
        else
         alF (d_,bk))
       else
        (if a2==3 then
         none
        else
         none)))))))
  else
   none))
def eu (a2:Int) (a4:Bool) (r2:Ao) (t_:List (Ar)) (d_:Int) (bk:List (Ay)) (aab:Int) (Td:Int) (aac:Int) (Tq:Bool) (F_:Int) (Tc:Int) (J_:Int) (AT:Int) (aad:Int) (aae:Int) (Tb:Int) (aaQ:List (Bd)) (r62:Ar) (akK:Int):Option (Ao×Int):=
 jn (fun(v:Int)=>ep a2 a4 r2 t_ d_ bk aab Td aac Tq F_ Tc J_ AT aad aae Tb aaQ r62 v) (fun asZ=>
 (if decide (akK<0) then
  asZ (t_.length:Int)
 else
  asZ akK))
def cj (akg:(Int)->Option (Ao×Int)):Option (Ao×Int):=
 akg (-1:Int)
def ck (t_:List (Ar)) (r62:Ar) (aa_:Int):Option ((Int)⊕(Unit⊕Int)):=
 (if(decide (aa_<(t_.length:Int))) then
  (idx t_ aa_).bind fun akt=>
  (idx t_ aa_).bind fun ayn=>
  (if decide (r62.Id<ayn.Id) then
   some (.inr (.inr aa_))
  else
   some (.inl (Ad (aa_+1))))
 else
  some (.inr (.inl ())))
def ew (a2:Int) (a4:Bool) (r2:Ao) (t_:List (Ar)) (d_:Int) (bk:List (Ay)) (aab:Int) (Td:Int) (aac:Int) (Tq:Bool) (F_:Int) (Tc:Int) (J_:Int) (AT:Int) (aad:Int) (aae:Int) (Tb:Int) (aaQ:List (Bd)) (r62:Ar) (ahE:Int):Option (Ao×Int):=
 (if decide (0<=ahE) then
  none
 else
  jn (fun(v:Int)=>eu a2 a4 r2 t_ d_ bk aab Td aac Tq F_ Tc J_ AT aad aae Tb aaQ r62 v) (fun akg=>
  jn (fun(v:Unit)=>cj akg) (fun ata=>
  (iter (fun(v:Int)=>ck t_ r62 v) FU (0:Int)).bind (Sum.elim (fun o0=>ata ()) (fun o1=>akg o1)))))
def cl (aoq:(Int)->Option (Ao×Int)):Option (Ao×Int):=
 aoq (-1:Int)
def cm (t_:List (Ar)) (r62:Ar) (aa9:Int):Option ((Int)⊕(Unit⊕Int)):=
 (if(decide (aa9<(t_.length:Int))) then
  (idx t_ aa9).bind fun aFA=>
  (idx t_ aa9).bind fun aym=>
  (if aym.Id==r62.Id then
   some (.inr (.inr aa9))
  else
   some (.inl (Ad (aa9+1))))
 else
  some (.inr (.inl ())))
def ey (a2:Int) (a3:Int) (a4:Bool) (r1:Ar×Bool) (r2:Ao) (t_:List (Ar)) (d_:Int) (bk:List (Ay)) (aab:Int) (Td:Int) (aac:Int) (Tq:Bool) (F_:Int) (Tc:Int) (J_:Int) (AT:Int) (aad:Int) (aae:Int) (Tb:Int) (aaQ:List (Bd)) (ar4:Int) (apO:Int) (ar5:Int) (arf:Bool) (anI:Int) (apM:Int) (apN:Int) (ank:Int) (ar6:Int) (ar7:Int) (apL:Int):Option (Ao×Int):=
 (some (if r1.1.Token then a2 != 0 else false)).bind fun b59=>
 (some (if b59 then a2 != 5 else false)).bind fun b60=>
 (if b60 then
  none
 else
  (TZ r1.1 J_ a2 a3 AT).bind fun r62=>
  jn (fun(v:Int)=>ew a2 a4 r2 t_ d_ bk aab Td aac Tq F_ Tc J_ AT aad aae Tb aaQ r62 v) (fun aoq=>
  jn (fun(v:Unit)=>cl aoq) (fun as_=>
  (iter (fun(v:Int)=>cm t_ r62 v) FU (0:Int)).bind (Sum.elim (fun o0=>as_ ()) (fun o1=>aoq o1)))))
def cn (aaN:Int) (W_:Int) (aav:Int) (aai:Bool) (O_:Int) (U_:Int) (V_:Int) (H_:Int) (aaw:Int) (aax:Int) (T_:Int) (abt:Int) (aaM:Int) (abu:Int) (aba:Bool) (aah:Int) (aaK:Int) (aaL:Int) (Tz:Int) (abv:Int) (abw:Int) (aaJ:Int) (alG:(Int×Int×Int×Bool×Int×Int×Int×Int×Int×Int×Int×(List (Bd))×Int×Int×Int×Bool×Int×Int×Int×Int×Int×Int×Int)->Option (Ao×Int)) (aaU:Int) (Tu:List (Bd)):Option (Ao×Int):=
 (n_ (0<=aaU/\aaU<=((Tu.length:Nat):Int)/\((Tu.length:Nat):Int)<=((Tu.length:Nat):Int)/\0<Tu.length)).bind fun aCJ=>
 (n_ (aaU+(((Tu.length:Nat):Int) - aaU)<=((Tu.length:Nat):Int)/\0<Tu.length)).bind fun aCI=>
 (some (Tu.take aaU.toNat++(List.replicate (((Tu.length:Nat):Int) - aaU).toNat (⟨0,0,0,0,0,false,(⟨0,(⟨0,0,0,0,0,0,0,[],0,0,(⟨0,0⟩:Af),(⟨0,0⟩:Af),(⟨0,0⟩:Af)⟩:Aj),([]:List (A1)),(⟨(⟨0,0,(⟨0,0,0,0,0⟩:A5 (Int))⟩:AB),false,false,0⟩:BV),false,(⟨0,0,(⟨0,0,0,0,0,0,0,[],0,0,(⟨0,0⟩:Af),(⟨0,0⟩:Af),(⟨0,0⟩:Af)⟩:Aj)⟩:A0),false,([]:List (Dc)),([]:List (Av)),(⟨0,0,(⟨0,0,0,0,0,0,0,[],0,0,(⟨0,0⟩:Af),(⟨0,0⟩:Af),(⟨0,0⟩:Af)⟩:Aj),0,0,0,0⟩:Au)⟩:AE),([]:List (EM)),(⟨0,0,0,0,0,0,0,0,0,0,false,false,(⟨0,0,0⟩:A3 (Int))⟩:qu)⟩:Bd)++Tu.drop (aaU.toNat+(((Tu.length:Nat):Int) - aaU).toNat)))).bind fun amJ=>
 (n_ (0<=(0:Int)/\0<=aaU/\aaU<=((amJ.length:Nat):Int)/\0<amJ.length)).bind fun aCH=>
 (n_ ((0:Int)=0/\(aaU - 0)<=((amJ.length:Nat):Int)/\0<amJ.length)).bind fun avF=>
 alG (aaN,W_,aav,aai,O_,U_,V_,H_,aaw,aax,T_,(amJ.take (aaU - 0).toNat),abt,aaM,abu,aba,aah,aaK,aaL,Tz,abv,abw,aaJ)
def cp (acu:Int) (amw:Int) (aiV:List (Bd)):Option ((Int×Int×(List (Bd)))⊕((Int×(List (Bd))))):=
 some (.inl (amw,(Ad (acu+1)),aiV))
def cq (r1:Ar×Bool) (ac4:Int) (acu:Int) (aaI:List (Bd)):Option ((Int×Int×(List (Bd)))⊕((Int×(List (Bd))))):=
 (if(decide (acu<(aaI.length:Int))) then
  jn (fun(v:Int×(List (Bd)))=>cp acu v.1 v.2) (fun apj=>
  (idx aaI acu).bind fun ara=>
  (idx aaI acu).bind fun aq_=>
  (some (if aq_.Id==r1.1.Id then aq_.Kind==1 else false)).bind fun ayT=>
  (if !ayT then
   (idx aaI ac4).bind fun aFy=>
   (idx aaI ac4).bind fun aFx=>
   (some (aaI.set (ac4).toNat aq_)).bind fun awG=>
   apj ((Ad (ac4+1)),awG)
  else
   apj (ac4,aaI)))
 else
  some (.inr (ac4,aaI)))
def cr (r1:Ar×Bool) (r2:Ao) (aaN:Int) (W_:Int) (aav:Int) (aai:Bool) (O_:Int) (U_:Int) (V_:Int) (H_:Int) (aaw:Int) (aax:Int) (T_:Int) (abt:Int) (aaM:Int) (abu:Int) (aba:Bool) (aah:Int) (aaK:Int) (aaL:Int) (Tz:Int) (abv:Int) (abw:Int) (aaJ:Int) (alG:(Int×Int×Int×Bool×Int×Int×Int×Int×Int×Int×Int×(List (Bd))×Int×Int×Int×Bool×Int×Int×Int×Int×Int×Int×Int)->Option (Ao×Int)) (agK:Int):Option (Ao×Int):=
 (if(agK==(-1:Int)) then
  alG (aaN,W_,aav,aai,O_,U_,V_,H_,aaw,aax,T_,r2.Stack,abt,aaM,abu,aba,aah,aaK,aaL,Tz,abv,abw,aaJ)
 else
  jn (fun(v:Int×(List (Bd)))=>cn aaN W_ aav aai O_ U_ V_ H_ aaw aax T_ abt aaM abu aba aah aaK aaL Tz abv abw aaJ alG v.1 v.2) (fun as9=>
  (iter (fun(v:Int×Int×(List (Bd)))=>cq r1 v.1 v.2.1 v.2.2) FU (agK,(Ad (agK+1)),r2.Stack)).bind (fun o0=>as9 (o0.1,o0.2))))
def ct (akW:(Int)->Option (Ao×Int)):Option (Ao×Int):=
 akW (-1:Int)
def cw (r1:Ar×Bool) (r2:Ao) (aa8:Int):Option ((Int)⊕(Unit⊕Int)):=
 (if(decide (aa8<(r2.Stack.length:Int))) then
  (idx r2.Stack aa8).bind fun aFw=>
  (idx r2.Stack aa8).bind fun aoN=>
  (some (if aoN.Id==r1.1.Id then aoN.Kind==1 else false)).bind fun ayS=>
  (if ayS then
   some (.inr (.inr aa8))
  else
   some (.inl (Ad (aa8+1))))
 else
  some (.inr (.inl ())))
def ez (a2:Int) (a3:Int) (a4:Bool) (r1:Ar×Bool) (r2:Ao) (t_:List (Ar)) (aaN:Int) (W_:Int) (aav:Int) (aai:Bool) (O_:Int) (U_:Int) (V_:Int) (H_:Int) (aaw:Int) (aax:Int) (T_:Int) (abt:Int) (aaM:Int) (abu:Int) (aba:Bool) (aah:Int) (aaK:Int) (aaL:Int) (Tz:Int) (abv:Int) (abw:Int) (aaJ:Int) (d_:Int) (bk:List (Ay)):Option (Ao×Int):=
 jn (fun(v:Int×Int×Int×Bool×Int×Int×Int×Int×Int×Int×Int×(List (Bd))×Int×Int×Int×Bool×Int×Int×Int×Int×Int×Int×Int)=>ey a2 a3 a4 r1 r2 t_ d_ bk v.1 v.2.1 v.2.2.1 v.2.2.2.1 v.2.2.2.2.1 v.2.2.2.2.2.1 v.2.2.2.2.2.2.1 v.2.2.2.2.2.2.2.1 v.2.2.2.2.2.2.2.2.1 v.2.2.2.2.2.2.2.2.2.1 v.2.2.2.2.2.2.2.2.2.2.1 v.2.2.2.2.2.2.2.2.2.2.2.1 v.2.2.2.2.2.2.2.2.2.2.2.2.1 v.2.2.2.2.2.2.2.2.2.2.2.2.2.1 v.2.2.2.2.2.2.2.2.2.2.2.2.2.2.1 v.2.2.2.2.2.2.2.2.2.2.2.2.2.2.2.1 v.2.2.2.2.2.2.2.2.2.2.2.2.2.2.2.2.1 v.2.2.2.2.2.2.2.2.2.2.2.2.2.2.2.2.2.1 v.2.2.2.2.2.2.2.2.2.2.2.2.2.2.2.2.2.2.1 v.2.2.2.2.2.2.2.2.2.2.2.2.2.2.2.2.2.2.2.1 v.2.2.2.2.2.2.2.2.2.2.2.2.2.2.2.2.2.2.2.2.1 v.2.2.2.2.2.2.2.2.2.2.2.2.2.2.2.2.2.2.2.2.2.1 v.2.2.2.2.2.2.2.2.2.2.2.2.2.2.2.2.2.2.2.2.2.2) (fun alG=>
 jn (fun(v:Int)=>cr r1 r2 aaN W_ aav aai O_ U_ V_ H_ aaw aax T_ abt aaM abu aba aah aaK aaL Tz abv abw aaJ alG v) (fun akW=>
 jn (fun(v:Unit)=>ct akW) (fun amT=>
 (iter (fun(v:Int)=>cw r1 r2 v) FU (0:Int)).bind (Sum.elim (fun o0=>amT ()) (fun o1=>akW o1)))))
def eA (a2:Int) (a3:Int) (a4:Bool) (r1:Ar×Bool) (r2:Ao) (t_:List (Ar)) (aaN:Int) (W_:Int) (aav:Int) (aai:Bool) (O_:Int) (U_:Int) (V_:Int) (H_:Int) (aaw:Int) (aax:Int) (T_:Int) (abt:Int) (aaM:Int) (abu:Int) (aba:Bool) (aah:Int) (aaK:Int) (aaL:Int) (Tz:Int) (abv:Int) (abw:Int) (aaJ:Int):Option (Ao×Int):=
 jn (fun(v:Int×(List (Ay)))=>ez a2 a3 a4 r1 r2 t_ aaN W_ aav aai O_ U_ V_ H_ aaw aax T_ abt aaM abu aba aah aaK aaL Tz abv abw aaJ v.1 v.2) (fun aos=>
 (if r1.1.q_==0 then
  none
 else
  (if r1.1.q_==4 then
   none
  else
   (some (if decide (r1.1.C_<0) then true else decide ((r2.m_.length:Int)<=r1.1.C_))).bind fun ayR=>
   (if ayR then
    none
   else
    (idx r2.m_ r1.1.C_).bind fun ayi=>
    (if r1.1.q_==1 then
     (if true then
      (idx r2.m_ r1.1.C_).bind fun ayg=>
      (n_ (r1.1.C_<((r2.m_.length:Nat):Int))).bind fun aCB=>
      (LE ayg.Hand r1.1.Id).bind fun av1=>
      (idx r2.m_ r1.1.C_).bind fun ayf=>
      (n_ (r1.1.C_<((r2.m_.length:Nat):Int))).bind fun aCA=>
      (n_ (r1.1.C_=r1.1.C_)).bind fun aCz=>
      (some (r2.m_.set (r1.1.C_).toNat ({ayf with Hand:=av1}))).bind fun awx=>
      aos (((r2.m_.length:Nat):Int),awx)
     else
      aos (((r2.m_.length:Nat):Int),r2.m_))
    else
     (if r1.1.q_==2 then
      (if true then
       (idx r2.m_ r1.1.C_).bind fun aye=>
       (n_ (r1.1.C_<((r2.m_.length:Nat):Int))).bind fun aCy=>
       (LE aye.aap r1.1.Id).bind fun av0=>
       (idx r2.m_ r1.1.C_).bind fun ayc=>
       (n_ (r1.1.C_<((r2.m_.length:Nat):Int))).bind fun aCw=>
       (n_ (r1.1.C_=r1.1.C_)).bind fun aCv=>
       (some (r2.m_.set (r1.1.C_).toNat ({ayc with aap:=av0}))).bind fun aww=>
       aos (((r2.m_.length:Nat):Int),aww)
      else
       aos (((r2.m_.length:Nat):Int),r2.m_))
     else
      (if r1.1.q_==3 then
       none
      else
       none)))))))
def kr (a2:Int) (a3:Int) (a4:Bool) (r1:Ar×Bool) (r2:Ao) (b_:Int):Option (Ao×Int):=
 jn (fun(v:(List (Ar))×Int×Int×Int×Bool×Int×Int×Int×Int×Int×Int×Int×Int×Int×Int×Bool×Int×Int×Int×Int×Int×Int×Int)=>eA a2 a3 a4 r1 r2 v.1 v.2.1 v.2.2.1 v.2.2.2.1 v.2.2.2.2.1 v.2.2.2.2.2.1 v.2.2.2.2.2.2.1 v.2.2.2.2.2.2.2.1 v.2.2.2.2.2.2.2.2.1 v.2.2.2.2.2.2.2.2.2.1 v.2.2.2.2.2.2.2.2.2.2.1 v.2.2.2.2.2.2.2.2.2.2.2.1 v.2.2.2.2.2.2.2.2.2.2.2.2.1 v.2.2.2.2.2.2.2.2.2.2.2.2.2.1 v.2.2.2.2.2.2.2.2.2.2.2.2.2.2.1 v.2.2.2.2.2.2.2.2.2.2.2.2.2.2.2.1 v.2.2.2.2.2.2.2.2.2.2.2.2.2.2.2.2.1 v.2.2.2.2.2.2.2.2.2.2.2.2.2.2.2.2.2.1 v.2.2.2.2.2.2.2.2.2.2.2.2.2.2.2.2.2.2.1 v.2.2.2.2.2.2.2.2.2.2.2.2.2.2.2.2.2.2.2.1 v.2.2.2.2.2.2.2.2.2.2.2.2.2.2.2.2.2.2.2.2.1 v.2.2.2.2.2.2.2.2.2.2.2.2.2.2.2.2.2.2.2.2.2.1 v.2.2.2.2.2.2.2.2.2.2.2.2.2.2.2.2.2.2.2.2.2.2) (fun as5=>
 (n_ (0<=b_/\b_<=(Ad (b_+1))/\(Ad (b_+1))<=(r2.j_.length:Int)/\(r2.j_.length:Int)<=((r2.j_.length:Nat):Int))).bind fun aCu=>
 (if b_==(Ad (b_+1)) then
  as5 (r2.j_,r2.abb,r2.abK,r2.Step,r2.aeg,r2.Priority,r2.Passes,r2.acJ,r2.aaW,r2.adH,r2.ahQ,r2.acZ,r2.abb,r2.abK,r2.Step,r2.aeg,r2.Priority,r2.Passes,r2.acJ,r2.aaW,r2.adH,r2.ahQ,r2.acZ)
 else
  (n_ (0<=(0:Int)/\0<=b_/\b_<=((r2.j_.length:Nat):Int)/\0<r2.j_.length)).bind fun aCt=>
  (n_ (0<=(Ad (b_+1))/\(Ad (b_+1))<=((r2.j_.length:Nat):Int)/\((r2.j_.length:Nat):Int)<=((r2.j_.length:Nat):Int)/\0<r2.j_.length)).bind fun aCs=>
  (n_ ((0:Int)=0/\(b_ - 0)+(((r2.j_.length:Nat):Int) - (Ad (b_+1)))<=((r2.j_.length:Nat):Int)/\(Ad (b_+1))+(((r2.j_.length:Nat):Int) - (Ad (b_+1)))<=((r2.j_.length:Nat):Int)/\0<r2.j_.length)).bind fun aCr=>
  (some (r2.j_.take (b_ - 0).toNat ++((r2.j_.drop (Ad (b_+1)).toNat).take (((r2.j_.length:Nat):Int) - (Ad (b_+1))).toNat ++r2.j_.drop ((b_ - 0).toNat +(((r2.j_.length:Nat):Int) - (Ad (b_+1))).toNat)))).bind fun aiW=>
  (n_ ((0:Int)=0/\0<=((((b_ - 0)+(((r2.j_.length:Nat):Int) - (Ad (b_+1)))).toNat :Nat):Int)/\((((b_ - 0)+(((r2.j_.length:Nat):Int) - (Ad (b_+1)))).toNat :Nat):Int)<=(r2.j_.length:Int)/\(r2.j_.length:Int)<=((aiW.length:Nat):Int)/\0<aiW.length)).bind fun aCq=>
  (n_ (((((b_ - 0)+(((r2.j_.length:Nat):Int) - (Ad (b_+1)))).toNat :Nat):Int)+((r2.j_.length:Int) - ((((b_ - 0)+(((r2.j_.length:Nat):Int) - (Ad (b_+1)))).toNat :Nat):Int))<=((aiW.length:Nat):Int)/\0<aiW.length)).bind fun aCp=>
  (some (aiW.take ((((b_ - 0)+(((r2.j_.length:Nat):Int) - (Ad (b_+1)))).toNat :Nat):Int).toNat ++(List.replicate ((r2.j_.length:Int) - ((((b_ - 0)+(((r2.j_.length:Nat):Int) - (Ad (b_+1)))).toNat :Nat):Int)).toNat (⟨0,0,0,0,0,false,false,false,false,0,(⟨0,0,0⟩:A3 (Int)),0,0,0,false,0,0⟩:Ar)++aiW.drop (((((b_ - 0)+(((r2.j_.length:Nat):Int) - (Ad (b_+1)))).toNat :Nat):Int).toNat +((r2.j_.length:Int) - ((((b_ - 0)+(((r2.j_.length:Nat):Int) - (Ad (b_+1)))).toNat :Nat):Int)).toNat)))).bind fun aqA=>
  (n_ ((0:Int)=0/\((b_ - 0)+(((r2.j_.length:Nat):Int) - (Ad (b_+1))))<=((aqA.length:Nat):Int)/\0<aqA.length)).bind fun aCo=>
  as5 ((aqA.take ((b_ - 0)+(((r2.j_.length:Nat):Int) - (Ad (b_+1)))).toNat),r2.abb,r2.abK,r2.Step,r2.aeg,r2.Priority,r2.Passes,r2.acJ,r2.aaW,r2.adH,r2.ahQ,r2.acZ,r2.abb,r2.abK,r2.Step,r2.aeg,r2.Priority,r2.Passes,r2.acJ,r2.aaW,r2.adH,r2.ahQ,r2.acZ)))
def cx (jJ7:(Int)->Option (Ao×Int)):Option (Ao×Int):=
 jJ7 (-1:Int)
def cy (r1:Ar×Bool) (r2:Ao) (aa7:Int):Option ((Int)⊕(Unit⊕Int)):=
 (if(decide (aa7<(r2.j_.length:Int))) then
  (idx r2.j_ aa7).bind fun aFt=>
  (idx r2.j_ aa7).bind fun aya=>
  (if aya.Id==r1.1.Id then
   some (.inr (.inr aa7))
  else
   some (.inl (Ad (aa7+1))))
 else
  some (.inr (.inl ())))
def VW (a0:Ao) (a1:Int) (a2:Int) (a3:Int) (a4:Bool):Option (Ao×Int):=
 (gU a0 a1).bind fun r1=>
 (Qf a0).bind fun r2=>
 (some (if !r1.2 then true else decide (a2<0))).bind fun b3=>
 (some (if b3 then true else decide (5<a2))).bind fun b4=>
 (if b4 then
  none
 else
  jn (fun(v:Int)=>kr a2 a3 a4 r1 r2 v) (fun jJ7=>
  jn (fun(v:Unit)=>cx jJ7) (fun as8=>
  (iter (fun(v:Int)=>cy r1 r2 v) FU (0:Int)).bind (Sum.elim (fun o0=>as8 ()) (fun o1=>jJ7 o1)))))
def Xk:CE TE Tryz.prog I0:=AA [ny,Po,XL,bR,Mj] Aa Ac 9 62 Tryz.f62 (Tryz.f62.body.getD .skip) (.s .n (.s .n (.s (.r [] [] (.q 1 .co .n)) (.s (.s .n (.i .x .n)) (.s (.r [] [] (.c 2 (.s (.r [] [] (.g 0 (.ug [2,3,4,5,10,12,37]) .n)) (.s (.r [] [] (.c 3 (.s (.r [] [] (.g 0 (.ug [2,3,4,10]) .n)) (.s (.r [] [] (.j 3 ⟨[],[(8, .c (.v (.k (.int .i64))))],[[2,37],[1,0,23],[2,0,23],[3,0,23],[3,37],[4,0,23],[4,37],[5],[5,0,23],[6,0,23],[10],[12],[16,0,23],[1000003,0,0,23]],[]⟩ (.s (.r [] [] (.g 0 (.ug [8]) .n)) (.j ⟨[],[],[[2,37],[1,0,23],[2,0,23],[3,0,23],[3,37],[4,0,23],[4,37],[5],[5,0,23],[6,0,23],[10],[12],[16,0,23],[1000003,0,0,23]],[]⟩ (.s .n (.l ⟨[0,1,7],[(8, .c (.v (.k (.int .i64))))],[[1,0,23],[2,37],[2,0,23],[3,0,23],[3,10,37],[3,37],[4,0,23],[4,37],[5],[5,0,23],[6,0,23],[10],[12],[16,0,23],[1000003,0,0,23]],[]⟩ [(1,⟨[],[],[[2,37],[1,0,23],[2,0,23],[3,0,23],[3,37],[4,0,23],[4,37],[5],[5,0,23],[6,0,23],[10],[12],[16,0,23],[1000003,0,0,23]],[]⟩),(0,⟨[],[(4, .c (.v (.k (.int .i64))))],[[2,37],[1,0,23],[2,0,23],[3,0,23],[3,37],[4,0,23],[4,37],[5],[5,0,23],[6,0,23],[10],[12],[16,0,23],[1000003,0,0,23]],[]⟩)] (.s .n (.s .n (.s (.s .n (.s (.r [] [] (.c 5 (.s (.r [] [] (.g 0 (.ug [0,1,5,7,8,16]) .n)) .n) .n)) .n)) .n))))) .n)) .n)) .n)) .n)) (.s (.r [] [] (.j 5 ⟨[2,3,4],[(16, .c (.c (.h_ [1,0,23])))],[[2,0,23],[3,0,23],[3,37],[4,0,23],[4,37],[5,0,23],[6,0,23],[10],[12],[16,0,23],[1000003,0,0,23]],[([1,0,23], .row 66),([2,37], .box [.c (.h_ [1000003,0,0,23]), .c (.any), .c (.h_ [2,0,23]), .c (.h_ [3,0,23]), .c (.h_ [4,0,23]), .c (.h_ [5,0,23]), .c (.h_ [6,0,23]), .v (.k (.int .i64)), .v (.k (.int .i64)), .v (.k (.int .i64)), .v (.k (.bool)), .v (.k (.int .i64)), .v (.k (.int .i64)), .v (.k (.int .i64)), .v (.k (.int .i64)), .v (.k (.int .u64)), .c (.h_ [16,0,23]), .v (.k (.int .i64)), .v (.k (.int .i64))]),([5], .box [.c (.h_ [1000003,0,0,23]), .c (.any), .c (.h_ [2,0,23]), .c (.h_ [3,0,23]), .c (.h_ [4,0,23]), .c (.h_ [5,0,23]), .c (.h_ [6,0,23]), .v (.k (.int .i64)), .v (.k (.int .i64)), .v (.k (.int .i64)), .v (.k (.bool)), .v (.k (.int .i64)), .v (.k (.int .i64)), .v (.k (.int .i64)), .v (.k (.int .i64)), .v (.k (.int .u64)), .c (.h_ [16,0,23]), .v (.k (.int .i64)), .v (.k (.int .i64))])]⟩ (.s (.r [] [] (.g 0 (.ug [2,3,4,16]) .n)) (.s (.r [] [] (.q 5 (.sub false) .n)) (.s .n (.s .n (.s (.r [] [] (.t (.q 2 (.sub true) (.q 5 (.sub true) (.q 6 .apb .n))))) (.s (.r [] [] (.q 4 (.sub true) (.q 5 .clr .n))) (.s (.r [] [] (.g 1 (.tr 32) .n)) .n))))))) .n)) (.j ⟨[2,3,4],[],[[2,37],[1,0,23],[2,0,23],[3,0,23],[3,37],[4,0,23],[4,37],[5],[5,0,23],[6,0,23],[10],[12],[16,0,23]],[([1000003,0,0,23], .deep 59)]⟩ (.s (.r [] [] (.c 4 (.s (.r [] [] (.g 0 (.ug [2,3,4,22]) .n)) (.s (.s .n (.s .n (.i .x (.s .n (.i .x .n))))) (.s (.s .n (.i .x .n)) (.s .n (.s (.s .n (.s .n (.i .n (.s .n (.i .n (.s .n (.i .x .n))))))) .x))))) .n)) (.s .n (.i (.r [] [] (.t (.q 3 .au (.q 6 .co (.q 8 .au .n))))) .n))) (.s (.r [] [] (.j 3 ⟨[2,4],[(36, .c (.c (.h_ [4,0,23])))],[[1,0,23],[2,0,23],[3,0,23],[4,37],[5,0,23],[6,0,23],[10],[12],[16,0,23],[1000003,0,0,23]],[([2,37], .box [.c (.h_ [1000003,0,0,23]), .c (.h_ [1,0,23]), .c (.h_ [2,0,23]), .c (.h_ [3,0,23]), .c (.any), .c (.h_ [5,0,23]), .c (.h_ [6,0,23]), .v (.k (.int .i64)), .v (.k (.int .i64)), .v (.k (.int .i64)), .v (.k (.bool)), .v (.k (.int .i64)), .v (.k (.int .i64)), .v (.k (.int .i64)), .v (.k (.int .i64)), .v (.k (.int .u64)), .c (.h_ [16,0,23]), .v (.k (.int .i64)), .v (.k (.int .i64))]),([4,0,23], .row 109),([5], .box [.c (.h_ [1000003,0,0,23]), .c (.any), .c (.h_ [2,0,23]), .c (.h_ [3,0,23]), .c (.any), .c (.h_ [5,0,23]), .c (.h_ [6,0,23]), .v (.k (.int .i64)), .v (.k (.int .i64)), .v (.k (.int .i64)), .v (.k (.bool)), .v (.k (.int .i64)), .v (.k (.int .i64)), .v (.k (.int .i64)), .v (.k (.int .i64)), .v (.k (.int .u64)), .c (.h_ [16,0,23]), .v (.k (.int .i64)), .v (.k (.int .i64))])]⟩ (.s (.r [] [] (.g 0 (.ug [2,4,36]) .n)) (.s (.r [] [] (.j 2 ⟨[0,1],[(10, .c (.v (.k (.int .i64))))],[[2,37],[1,0,23],[2,0,23],[3,0,23],[3,37],[4,0,23],[4,37],[5],[5,0,23],[6,0,23],[10],[12],[16,0,23],[1000003,0,0,23]],[]⟩ (.s (.r [] [] (.g 0 (.ug [0,1,10]) .n)) (.j ⟨[],[],[[2,37],[1,0,23],[2,0,23],[3,0,23],[3,37],[4,0,23],[4,37],[5],[5,0,23],[6,0,23],[10],[12],[16,0,23],[1000003,0,0,23]],[]⟩ (.s .n (.l ⟨[0,1,7],[(8, .c (.v (.k (.int .i64))))],[[2,37],[1,0,23],[2,0,23],[3,0,23],[3,37],[4,0,23],[4,37],[5],[5,0,23],[6,0,23],[10],[12],[16,0,23],[1000003,0,0,23]],[]⟩ [(1,⟨[],[],[[2,37],[1,0,23],[2,0,23],[3,0,23],[3,37],[4,0,23],[4,37],[5],[5,0,23],[6,0,23],[10],[12],[16,0,23],[1000003,0,0,23]],[]⟩),(0,⟨[],[(4, .c (.v (.k (.int .i64))))],[[2,37],[1,0,23],[2,0,23],[3,0,23],[3,37],[4,0,23],[4,37],[5],[5,0,23],[6,0,23],[10],[12],[16,0,23],[1000003,0,0,23]],[]⟩)] (.s .n (.s .n (.s (.s .n (.s (.r [] [] (.c 5 (.s (.r [] [] (.g 0 (.ug [0,1,5,7,8,16]) .n)) .n) .n)) .n)) .n))))) .n)) .n)) (.s .n (.j ⟨[0],[(5, .c (.v (.k (.int .i64))))],[[2,37],[1,0,23],[2,0,23],[3,0,23],[4,37],[5],[5,0,23],[6,0,23],[10],[12],[16,0,23],[1000003,0,0,23]],[([4,0,23], .row 109)]⟩ (.s .n (.l ⟨[0,1],[(5, .c (.v (.k (.int .i64)))),(6, .c (.v (.k (.int .i64))))],[[2,37],[1,0,23],[2,0,23],[3,0,23],[3,37],[4,37],[5],[5,0,23],[6,0,23],[10],[12],[16,0,23],[1000003,0,0,23]],[([4,0,23], .row 109)]⟩ [(1,⟨[0],[(5, .c (.v (.k (.int .i64))))],[[2,37],[1,0,23],[2,0,23],[3,0,23],[4,37],[5],[5,0,23],[6,0,23],[10],[12],[16,0,23],[1000003,0,0,23]],[([4,0,23], .row 109)]⟩)] (.s .n (.j ⟨[0,1,6],[(5, .c (.v (.k (.int .i64))))],[[2,37],[1,0,23],[2,0,23],[3,0,23],[3,37],[4,37],[5],[5,0,23],[6,0,23],[10],[12],[16,0,23],[1000003,0,0,23]],[([4,0,23], .row 109)]⟩ (.s .n (.s (.r [] [] (.c 2 (.s (.r [] [] (.g 0 (.ug [0,1,5,6,7,28]) .n)) .n) .n)) .n)) .n)))) (.s (.r [] [] (.q 2 (.sub true) (.q 3 .clr .n))) (.s (.r [] [] (.q 2 (.sub true) (.g 3 (.tr 41) .n))) .n)))))) .n)) .n))))) .n)) (.s (.s .n (.i .x .n)) (.s .n (.s (.r [] [] (.c 2 (.s (.r [] [] (.g 0 (.ug [2,4,5,10,14,59]) .n)) (.s (.s (.r [] [] (.c 3 (.s (.r [] [] (.g 0 (.ug [2,3,4,10]) .n)) (.s (.r [] [] (.j 3 ⟨[],[(8, .c (.v (.k (.int .i64))))],[[2,59],[1,0,23],[2,0,23],[3,0,23],[3,59],[4,0,23],[4,59],[5],[5,0,23],[6,0,23],[10],[14],[16,0,23],[1000003,0,0,23]],[]⟩ (.s (.r [] [] (.g 0 (.ug [8]) .n)) (.j ⟨[],[],[[2,59],[1,0,23],[2,0,23],[3,0,23],[3,59],[4,0,23],[4,59],[5],[5,0,23],[6,0,23],[10],[14],[16,0,23],[1000003,0,0,23]],[]⟩ (.s .n (.l ⟨[0,1,7],[(8, .c (.v (.k (.int .i64))))],[[1,0,23],[2,59],[2,0,23],[3,0,23],[3,10,59],[3,59],[4,0,23],[4,59],[5],[5,0,23],[6,0,23],[10],[14],[16,0,23],[1000003,0,0,23]],[]⟩ [(1,⟨[],[],[[2,59],[1,0,23],[2,0,23],[3,0,23],[3,59],[4,0,23],[4,59],[5],[5,0,23],[6,0,23],[10],[14],[16,0,23],[1000003,0,0,23]],[]⟩),(0,⟨[],[(4, .c (.v (.k (.int .i64))))],[[2,59],[1,0,23],[2,0,23],[3,0,23],[3,59],[4,0,23],[4,59],[5],[5,0,23],[6,0,23],[10],[14],[16,0,23],[1000003,0,0,23]],[]⟩)] (.s .n (.s .n (.s (.s .n (.s (.r [] [] (.c 5 (.s (.r [] [] (.g 0 (.ug [0,1,5,7,8,16]) .n)) .n) .n)) .n)) .n))))) .n)) .n)) .n)) .n)) (.s .n (.i .x .n))) (.s (.r [] [] (.j 3 ⟨[2,3,4],[(22, .c (.v (.k (.int .i64))))],[[2,59],[1,0,23],[2,0,23],[3,0,23],[3,59],[4,0,23],[4,59],[5],[5,0,23],[6,0,23],[10],[14],[16,0,23],[1000003,0,0,23]],[]⟩ (.s (.r [] [] (.g 0 (.ug [2,3,4,22]) .n)) (.j ⟨[],[],[[2,59],[1,0,23],[2,0,23],[3,0,23],[3,59],[4,0,23],[4,59],[5],[5,0,23],[6,0,23],[10],[14],[16,0,23],[1000003,0,0,23]],[]⟩ (.s .n (.l ⟨[0,1,7],[(8, .c (.v (.k (.int .i64))))],[[1,0,23],[2,59],[2,0,23],[3,0,23],[3,59],[4,0,23],[4,59],[5],[5,0,23],[6,0,23],[10],[14],[16,0,23],[1000003,0,0,23]],[]⟩ [(1,⟨[],[],[[2,59],[1,0,23],[2,0,23],[3,0,23],[3,59],[4,0,23],[4,59],[5],[5,0,23],[6,0,23],[10],[14],[16,0,23],[1000003,0,0,23]],[]⟩),(0,⟨[],[(4, .c (.v (.k (.int .i64))))],[[2,59],[1,0,23],[2,0,23],[3,0,23],[3,59],[4,0,23],[4,59],[5],[5,0,23],[6,0,23],[10],[14],[16,0,23],[1000003,0,0,23]],[]⟩)] (.s .n (.s .n (.s (.s .n (.s (.r [] [] (.c 5 (.s (.r [] [] (.g 0 (.ug [0,1,5,7,8,16]) .n)) .n) .n)) .n)) .n))))) .n)) .n)) (.j ⟨[2,3,4],[(6, .c (.v (.k (.int .i64))))],[[2,59],[1,0,23],[2,0,23],[3,0,23],[3,59],[4,0,23],[4,59],[5],[5,0,23],[6,0,23],[10],[14],[16,0,23],[1000003,0,0,23]],[]⟩ .n (.s (.r [] [] (.c 5 (.s (.r [] [] (.g 0 (.ug [2,4,33]) .n)) (.s (.r [] [] (.q 2 (.sub true) .n)) (.s .n (.s (.s .n (.i .x .n)) (.s .n (.s .n (.s .x .n))))))) .n)) .n))))) .n)) (.s .n (.s .n (.j ⟨[5,10,14],[],[[5],[1,0,23],[2,0,23],[3,0,23],[4,0,23],[5,0,23],[6,0,23],[10],[14],[16,0,23]],[([1000003,0,0,23], .deep 59)]⟩ (.s (.r [] [] (.c 3 (.s (.r [] [] (.g 0 (.ug [2,4,5,10,14,71]) .n)) (.s (.s .n (.s .n (.i .x (.s .n (.i .x .n))))) (.s (.s .n (.i .x .n)) (.s .n (.s (.s .n (.s .n (.i .n (.s .n (.i .n (.s .n (.i .x .n))))))) .x))))) .n)) (.s .n (.i (.s .n (.i (.r [] [] (.t (.q 3 .au (.q 7 .ins (.q 9 .au .n))))) (.r [] [] (.t (.q 3 .au (.q 9 .au .n)))))) .n))) (.s (.r [] [] (.t (.g 0 (.fd [1000003,0,0,23]) (.q 0 .lz .n)))) .n)))))))))))) [.s 36, .k (.int .i64), .k (.int .i64), .k (.int .i64), .k (.bool)] [.s 36, .k (.int .i64)] (fun x=>VW x.1 x.2.1 x.2.2.1 x.2.2.2.1 x.2.2.2.2.1) Tryz.func62 rfl (by kernel_rfl)
def XV:Option (Bool):=
 some true
def XW (a0:Cc) (a1:List (Int)) (ajN:Int) (asO:List (Int)):Option ((Int×(List (Int)))⊕(Unit⊕Bool)):=
 (if(decide (ajN<(a1.length:Int))) then
  (idx a1 ajN).bind fun e10=>
  (idx a0.Options e10).bind fun e11=>
  (gW asO e11.A).bind fun r12=>
  (if r12 then
   some (.inr (.inr false))
  else
   (idx a0.Options e10).bind fun e14=>
   (app 8 asO ([e14.A]:List (Int))).bind fun l15=>
   some (.inl ((Ad (ajN+1)),l15)))
 else
  some (.inr (.inl ())))
def T6 (a0:Cc) (a1:List (Int)):Option (Bool):=
 jn (fun(v:Unit)=>XV) (fun jJ1=>
 (iter (fun(v:Int×(List (Int)))=>XW a0 a1 v.1 v.2) FU ((0:Int),([]:List (Int)))).bind (Sum.elim (fun o0=>jJ1 ()) (fun o1=>some o1)))
def cz:CE TE Tryz.prog I0:=AA [nF] Aa Ac 9 97 Tryz.f97 (Tryz.f97.body.getD .skip) (.s .n (.s .n (.j ⟨[],[],[],[]⟩ (.s .n (.l ⟨[2,8,9],[(5, .c (.c (.h_ [5]))),(10, .c (.v (.k (.int .i64))))],[[2]],[([5], .row 3)]⟩ [(1,⟨[],[],[],[]⟩),(0,⟨[],[(4, .c (.v (.k (.bool))))],[],[]⟩)] .n)) .n))) [.s 81, .k (.u_ 3)] [.k (.bool)] (fun x=>T6 x.1 x.2.1) Tryz.func97 rfl (by kernel_rfl)
def nI (r1:Ao) (akR:Int) (afp:List (Ay)):Option (Ao):=
 some (⟨afp,r1.j_,r1.aaP,r1.agm,r1.Stack,r1.acU,r1.agn,r1.abb,r1.abK,r1.Step,r1.aeg,r1.Priority,r1.Passes,r1.acJ,r1.aaW,r1.adH,r1.Extra,r1.ahQ,r1.acZ⟩:Ao)
def nJ (a0:Ao) (a1:Int) (a2:Int) (a3:List (Int)):Option (Ao):=
 (Qf a0).bind fun r1=>
 jn (fun(v:Int×(List (Ay)))=>nI r1 v.1 v.2) (fun jJ4=>
 (if a1==0 then
  none
 else
  (if a1==4 then
   none
  else
   (some (if decide (a2<0) then true else decide ((r1.m_.length:Int)<=a2))).bind fun b7=>
   (if b7 then
    none
   else
    (idx r1.m_ a2).bind fun e9=>
    (if a1==1 then
     (if true then
      (Az a3).bind fun r12=>
      (idx r1.m_ a2).bind fun e13=>
      (n_ (a2<((r1.m_.length:Nat):Int))).bind fun u14=>
      (some (r1.m_.set (a2).toNat ({e13 with Hand:=r12}))).bind fun l15=>
      jJ4 (((r1.m_.length:Nat):Int),l15)
     else
      jJ4 (((r1.m_.length:Nat):Int),r1.m_))
    else
     (if a1==2 then
      (if true then
       (Az a3).bind fun r18=>
       (idx r1.m_ a2).bind fun e19=>
       (n_ (a2<((r1.m_.length:Nat):Int))).bind fun u20=>
       (some (r1.m_.set (a2).toNat ({e19 with aap:=r18}))).bind fun l21=>
       jJ4 (((r1.m_.length:Nat):Int),l21)
      else
       jJ4 (((r1.m_.length:Nat):Int),r1.m_))
     else
      (if a1==3 then
       none
      else
       none)))))))
def q9:CE TE Tryz.prog I0:=AA [Po,BF] Aa Ac 9 68 Tryz.f68 (Tryz.f68.body.getD .skip) (.s .n (.s (.r [] [] (.q 1 .co .n)) (.j ⟨[4,8],[],[[4],[1,0,11],[2,0,11],[3,0,11],[4,0,11],[5,0,11],[6,0,11],[8],[16,0,11]],[([1000003,0,0,11], .deep 59)]⟩ (.s (.r [] [] (.c 2 (.s (.r [] [] (.g 0 (.ug [3,4,8,14]) .n)) (.s (.s .n (.s .n (.i .x (.s .n (.i .x .n))))) (.s (.s .n (.i .x .n)) (.s .n (.s (.s .n (.s .n (.i .n (.s .n (.i .n (.s .n (.i .x .n))))))) .x))))) .n)) (.s .n (.i (.r [] [] (.q 2 .co (.q 4 .au .n))) .n))) (.s (.r [] [] (.g 0 (.fd [1000003,0,0,11]) .n)) .n)))) [.s 36, .k (.int .i64), .k (.int .i64), .k (.u_ 3)] [.s 36] (fun x=>nJ x.1 x.2.1 x.2.2.1 x.2.2.2.1) Tryz.func68 rfl (by kernel_rfl)
def VX (a0:I1):Option (Bool):=
 (some (if a0.Types==2 then true else a0.Types==4)).bind fun b7=>
 (gd (b7==false) (Li a0.Types (1:Int))).bind fun r8=>
 (gd ((b7==false)&&((!r8)==true)) (Li a0.Types (2:Int))).bind fun r9=>
 (some (if !r8 then !r9 else false)).bind fun b10=>
 (some (if b7 then true else b10)).bind fun b11=>
 some b11
def HE (a0:I1) (acO:Int):Option ((Int)⊕(Unit⊕Bool)):=
 (if(decide (acO<(a0.abd.length:Int))) then
  (idx a0.abd acO).bind fun e17=>
  (JA e17).bind fun r18=>
  (gd (((!r18)==false)&&((decide (0<acO))==true)) (idx a0.abd (Ad (acO - 1)))).bind fun e19=>
  (gd (((!r18)==false)&&((decide (0<acO))==true)) (idx a0.abd acO)).bind fun e20=>
  (some (if decide (0<acO) then !(Op.bytesLess e19 e20)else false)).bind fun b21=>
  (some (if !r18 then true else b21)).bind fun b22=>
  (if b22 then
   some (.inr (.inr false))
  else
   some (.inl (Ad (acO+1))))
 else
  some (.inr (.inl ())))
def cA (a0:I1):Option (Bool):=
 (some (if decide (a0.aef<0) then true else decide (3<a0.aef))).bind fun b1=>
 (some (if b1 then true else decide (a0.Types<1))).bind fun b2=>
 (some (if b2 then true else decide (63<a0.Types))).bind fun b3=>
 (some (if b3 then true else decide (4<(a0.abd.length:Int)))).bind fun b4=>
 (if b4 then
  some false
 else
  jn (fun(v:Unit)=>VX a0) (fun jJ6=>
  (iter (fun(v:Int)=>HE a0 v) FU (0:Int)).bind (Sum.elim (fun o0=>jJ6 ()) (fun o1=>some o1))))
def yh:CE TE Tryz.prog I0:=AA [Pp,gR] Aa Ac 9 44 Tryz.f44 (Tryz.f44.body.getD .skip) (.s .n (.s .n (.j ⟨[1],[],[[1]],[]⟩ (.s .n (.l ⟨[1],[(3, .c (.v (.k (.int .i64))))],[[1]],[]⟩ [(1,⟨[1],[],[[1]],[]⟩),(0,⟨[],[(2, .c (.v (.k (.bool))))],[],[]⟩)] .n)) .n))) [.s 48] [.k (.bool)] (fun x=>cA x.1) Tryz.func44 rfl (by kernel_rfl)
def IQ (a0:Aj):Option (Bool):=
 (some (if decide (a0.q_<0) then true else decide (5<a0.q_))).bind fun b1=>
 (some (if b1 then true else decide (a0.Who<0))).bind fun b2=>
 (some (if b2 then true else decide (2<a0.Who))).bind fun b3=>
 (some (if b3 then true else decide (a0.Self<0))).bind fun b4=>
 (some (if b4 then true else decide (2<a0.Self))).bind fun b5=>
 (some (if b5 then true else decide (a0.Tap<0))).bind fun b6=>
 (some (if b6 then true else decide (2<a0.Tap))).bind fun b7=>
 (if b7 then
  some false
 else
  (EQ a0.Types a0.w_ (63:Int)).bind fun r9=>
  (gd ((!r9)==false) (EQ a0.Tj a0.r_ (31:Int))).bind fun r10=>
  (some (if !r9 then true else !r10)).bind fun b11=>
  (if b11 then
   some false
  else
   (gd ((a0.Sub != ([]:List UInt8))==true) (JA a0.Sub)).bind fun r13=>
   (some (if(a0.Sub != ([]:List UInt8)) then !r13 else false)).bind fun b14=>
   (some (if b14 then true else decide (a0.Keys<0))).bind fun b15=>
   (some (if b15 then true else decide (131071<a0.Keys))).bind fun b16=>
   (if b16 then
    some false
   else
    (Jy a0.Power).bind fun r18=>
    (gd (r18==true) (Jy a0.v_)).bind fun r19=>
    (some (if r18 then r19 else false)).bind fun b20=>
    (gd (b20==true) (Jy a0.Value)).bind fun r21=>
    (some (if b20 then r21 else false)).bind fun b22=>
    some b22)))
def GW:CE TE Tryz.prog I0:=AA [ne,Pp,nf] Aa Ac 9 79 Tryz.f79 (Tryz.f79.body.getD .skip) .n [.s 93] [.k (.bool)] (fun x=>IQ x.1) Tryz.func79 rfl (by kernel_rfl)
def XX (alv:Int):Option ((List UInt8)):=
 (Dm alv).bind fun r3=>
 some r3
def XY (a0:Int) (ahT:Int) (amN:Int):Option ((Int×Int)⊕(Int)):=
 (if decide (amN<a0) then
  some (.inl ((Ad (ahT*(2:Int))),(Ad (amN+1))))
 else
  some (.inr ahT))
def Jk (a0:Int):Option ((List UInt8)):=
 jn (fun(v:Int)=>XX v) (fun K_=>
 (iter (fun(v:Int×Int)=>XY a0 v.1 v.2) FU ((1:Int),(0:Int))).bind (fun o0=>K_ o0))
def cB:CE TE Tryz.prog I0:=AA [N6] Aa Ac 9 205 Tryz.f205 (Tryz.f205.body.getD .skip) (.s .n (.s .n (.j ⟨[],[(3, .c (.v (.k (.int .i64))))],[],[]⟩ (.s .n (.l ⟨[0],[(3, .c (.v (.k (.int .i64)))),(4, .c (.v (.k (.int .i64))))],[],[]⟩ [(1,⟨[],[(3, .c (.v (.k (.int .i64))))],[],[]⟩)] .n)) .n))) [.k (.int .i64)] [.k (.str)] (fun x=>Jk x.1) Tryz.func205 rfl (by kernel_rfl)
def GX (a0:A6 (Int)):Option ((List UInt8)):=
 (bN a0).bind fun r1=>
 (T5 r1).bind fun r2=>
 some r2
def cC:CE TE Tryz.prog I0:=AA [qT,q8] Aa Ac 9 166 Tryz.f166 (Tryz.f166.body.getD .skip) .n [.s 57] [.k (.str)] (fun x=>GX x.1) Tryz.func166 rfl (by kernel_rfl)
end Go.PL
