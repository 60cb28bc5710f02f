/- Functions of the program, as partial functions in Lean, with proofs. -/
import Derived.Test.YtfmknfnfpeopeaaGreatDoorPlBhB
import Derived.Test.YtfmknfnfpeopeaaGreatDoorPlBhF0
import Derived.Test.YtfmknfnfpeopeaaGreatDoorPlBhF1
import Derived.Test.YtfmknfnfpeopeaaGreatDoorPlBhF2
namespace Go.PL
open Go Go.RowKit Go.Proofs
set_option maxRecDepth 100000
set_option linter.all false
set_option maxHeartbeats 4000000
attribute [local irreducible] Ae C0 C3
def N5:Option (Int×Int):=
 some ((-1:Int),(0:Int))
def N6 (a0:List (DH)) (vt11_4:Int):Option ((Int)⊕(Unit⊕(Int×Int))):=
 (if(decide (vt11_4<(a0.length:Int)))=true then
  (AN a0 vt11_4).bind fun e9=>
  (bj e9).bind fun r10=>
  (if(!r10)=true then
   some (.inr (.inr (vt11_4,(9:Int))))
  else
   (MS a0 e9.Name).bind fun r12=>
   (if(decide (r12<vt11_4))=true then
    some (.inr (.inr (vt11_4,(6:Int))))
   else
    (La a0 e9).bind fun r14=>
    (if r14=true then
     some (.inr (.inr (vt11_4,(7:Int))))
    else
     some (.inl (Al (vt11_4+1))))))
 else
  some (.inr (.inl ())))
def FQ (a0:List (DH)):Option (Int×Int):=
 (if(decide (256<(a0.length:Int)))=true then
  some ((-1:Int),(5:Int))
 else
  jn (fun(v:Unit)=>N5) (fun jJ2=>
  (iter (fun(v:Int)=>N6 a0 v) FU (0:Int)).bind (Sum.elim (fun o0=>jJ2 ()) (fun o1=>some (o1.1,o1.2)))))
def PI:CE TE Tryz.prog I0:=CG [dj,Se,Px] An Av 9 23 Tryz.f23 (Tryz.f23.body.getD .skip) (.s .n (.s .n (.j ⟨[],[],[],[]⟩ (.s .n (.l ⟨[0,9,10],[(11, .c (.v (.k (.int .i64))))],[],[]⟩ [(1,⟨[],[],[],[]⟩),(0,⟨[],[(2, .c (.v (.k (.int .i64)))),(3, .c (.v (.k (.int .i64))))],[],[]⟩)] .n)) .n))) [.k (.lst 70)] [.k (.int .i64), .k (.int .i64)] (fun x=>FQ x.1) Tryz.func23 rfl (by kernel_rfl)
def So (l_t3_2:List (Int)):Option ((List (Int))):=
 some l_t3_2
def Gj (a0:Af):Option ((List (Int))):=
 (M3 a0 a0.Active).bind fun r1=>
 jn (fun(v:(List (Int)))=>So v) (fun jJ3=>
 (Jv a0).bind fun r4=>
 (CW r4 a0.Active).bind fun r5=>
 (if r5=true then
  (EW 8 ([a0.Active]:List (Int)) r1).bind fun l7=>
  jJ3 l7
 else
  jJ3 r1))
def Lc:CE TE Tryz.prog I0:=CG [Sl,Kk,D6] An Av 9 17 Tryz.f17 (Tryz.f17.body.getD .skip) (.s .n (.s .n (.j ⟨[],[(3, .c (.v (.k (.lst 3))))],[],[]⟩ (.s (.r [] [] (.t .n)) .n) .n))) [.s 31] [.k (.lst 3)] (fun x=>Gj x.1) Tryz.func17 rfl (by kernel_rfl)
def TR (r2:Af) (b2_37_Turn35:Int) (b2_37_Active36:Int) (b2_37_Step37:Int) (b2_37_Begun38:Bool) (b2_37_Priority39:Int) (b2_37_Passes40:Int) (b2_37_NextId41:Int) (b2_37_NextStamp42:Int) (b2_37_Seed43:Int) (b2_37_Over44:Int) (b2_37_Winner45:Int) (l4_0_23_46:List (AW)) (r62:Aa) (l73:List (Aa)) (n1000003_0_0_23_74:Int) (l1000003_0_0_23_75:List (Ar)):Option (Af×Int):=
 some ((⟨l1000003_0_0_23_75,l73,r2.Battlefield,r2.Exile,l4_0_23_46,r2.Waiting,r2.Conts,b2_37_Turn35,b2_37_Active36,b2_37_Step37,b2_37_Begun38,b2_37_Priority39,b2_37_Passes40,Al (b2_37_NextId41+1),Al (b2_37_NextStamp42+1),b2_37_Seed43,r2.Extra,b2_37_Over44,b2_37_Winner45⟩:Af),r62.Id)
def BI (a2:Int) (a4:Bool) (r2:Af) (l1_0_23_8:List (Aa)) (n1000003_0_0_23_32:Int) (l1000003_0_0_23_33:List (Ar)) (b2_37_Turn35:Int) (b2_37_Active36:Int) (b2_37_Step37:Int) (b2_37_Begun38:Bool) (b2_37_Priority39:Int) (b2_37_Passes40:Int) (b2_37_NextId41:Int) (b2_37_NextStamp42:Int) (b2_37_Seed43:Int) (b2_37_Over44:Int) (b2_37_Winner45:Int) (l4_0_23_46:List (AW)) (r62:Aa) (id_t6_68:Int):Option (Af×Int):=
 (AS (0≤id_t6_68∧id_t6_68≤((l1_0_23_8.length:Nat):Int)∧((l1_0_23_8.length:Nat):Int)≤((l1_0_23_8.length:Nat):Int)∧0<l1_0_23_8.length)).bind fun u70=>
 (if((([r62]:List (Aa)).length :Int)==0)=true then
  none
 else
  (if(id_t6_68==(l1_0_23_8.length:Int))=true then
   (EW 128 l1_0_23_8 ([r62]:List (Aa))).bind fun l73=>
   jn (fun(v:Int×(List (Ar)))=>TR r2 b2_37_Turn35 b2_37_Active36 b2_37_Step37 b2_37_Begun38 b2_37_Priority39 b2_37_Passes40 b2_37_NextId41 b2_37_NextStamp42 b2_37_Seed43 b2_37_Over44 b2_37_Winner45 l4_0_23_46 r62 l73 v.1 v.2) (fun jJ76=>
   (if(a2==0)=true then
    none
   else
    (if(a2==4)=true then
     none
    else
     (some (if(decide (r62.Owner<0))=true then true else decide ((l1000003_0_0_23_33.length:Int)≤r62.Owner))).bind fun b79=>
     (if b79=true then
      none
     else
      (AN l1000003_0_0_23_33 r62.Owner).bind fun e81=>
      (if(a2==1)=true then
       (if true=true then
        (some (if(a2==2)=true then !a4 else false)).bind fun b84=>
        (if b84=true then
         (AN l1000003_0_0_23_33 r62.Owner).bind fun e86=>
         (AS (r62.Owner<n1000003_0_0_23_32)).bind fun u87=>
         (AS (0≤(0:Int)∧(0:Int)≤((e86.Hand.length:Nat):Int)∧0<([r62.Id]:List (Int)).length ∧(e86.Hand.length+([r62.Id]:List (Int)).length)*8≤140737488355328)).bind fun u88=>
         (AN l1000003_0_0_23_33 r62.Owner).bind fun e89=>
         (AS (r62.Owner<n1000003_0_0_23_32)).bind fun u90=>
         (AS (r62.Owner=r62.Owner)).bind fun u91=>
         (some (l1000003_0_0_23_33.set (r62.Owner).toNat ({e89 with Hand:=(e86.Hand.take (0:Int).toNat ++(([r62.Id]:List (Int))++e86.Hand.drop (0:Int).toNat))}))).bind fun l92=>
         jJ76 (n1000003_0_0_23_32,l92)
        else
         (AN l1000003_0_0_23_33 r62.Owner).bind fun e93=>
         (AS (r62.Owner<n1000003_0_0_23_32)).bind fun u94=>
         (EW 8 e93.Hand ([r62.Id]:List (Int))).bind fun l95=>
         (AN l1000003_0_0_23_33 r62.Owner).bind fun e96=>
         (AS (r62.Owner<n1000003_0_0_23_32)).bind fun u97=>
         (AS (r62.Owner=r62.Owner)).bind fun u98=>
         (some (l1000003_0_0_23_33.set (r62.Owner).toNat ({e96 with Hand:=l95}))).bind fun l99=>
         jJ76 (n1000003_0_0_23_32,l99))
       else
        jJ76 (n1000003_0_0_23_32,l1000003_0_0_23_33))
      else
       (if(a2==2)=true then
        (if true=true then
         (some (if(a2==2)=true then !a4 else false)).bind fun b102=>
         (if b102=true then
          (AN l1000003_0_0_23_33 r62.Owner).bind fun e104=>
          (AS (r62.Owner<n1000003_0_0_23_32)).bind fun u105=>
          (AS (0≤(0:Int)∧(0:Int)≤((e104.Library.length:Nat):Int)∧0<([r62.Id]:List (Int)).length ∧(e104.Library.length+([r62.Id]:List (Int)).length)*8≤140737488355328)).bind fun u106=>
          (AN l1000003_0_0_23_33 r62.Owner).bind fun e107=>
          (AS (r62.Owner<n1000003_0_0_23_32)).bind fun u108=>
          (AS (r62.Owner=r62.Owner)).bind fun u109=>
          (some (l1000003_0_0_23_33.set (r62.Owner).toNat ({e107 with Library:=(e104.Library.take (0:Int).toNat ++(([r62.Id]:List (Int))++e104.Library.drop (0:Int).toNat))}))).bind fun l110=>
          jJ76 (n1000003_0_0_23_32,l110)
         else
          (AN l1000003_0_0_23_33 r62.Owner).bind fun e111=>
          (AS (r62.Owner<n1000003_0_0_23_32)).bind fun u112=>
          (EW 8 e111.Library ([r62.Id]:List (Int))).bind fun l113=>
          (AN l1000003_0_0_23_33 r62.Owner).bind fun e114=>
          (AS (r62.Owner<n1000003_0_0_23_32)).bind fun u115=>
          (AS (r62.Owner=r62.Owner)).bind fun u116=>
          (some (l1000003_0_0_23_33.set (r62.Owner).toNat ({e114 with Library:=l113}))).bind fun l117=>
          jJ76 (n1000003_0_0_23_32,l117))
        else
         jJ76 (n1000003_0_0_23_32,l1000003_0_0_23_33))
       else
        (if(a2==3)=true then
         none
        else
         none)))))))
  else
   none))
def TS (a2:Int) (a4:Bool) (r2:Af) (l1_0_23_8:List (Aa)) (n1000003_0_0_23_32:Int) (l1000003_0_0_23_33:List (Ar)) (b2_37_Turn35:Int) (b2_37_Active36:Int) (b2_37_Step37:Int) (b2_37_Begun38:Bool) (b2_37_Priority39:Int) (b2_37_Passes40:Int) (b2_37_NextId41:Int) (b2_37_NextStamp42:Int) (b2_37_Seed43:Int) (b2_37_Over44:Int) (b2_37_Winner45:Int) (l4_0_23_46:List (AW)) (r62:Aa) (vt22_66:Int):Option (Af×Int):=
 jn (fun(v:Int)=>BI a2 a4 r2 l1_0_23_8 n1000003_0_0_23_32 l1000003_0_0_23_33 b2_37_Turn35 b2_37_Active36 b2_37_Step37 b2_37_Begun38 b2_37_Priority39 b2_37_Passes40 b2_37_NextId41 b2_37_NextStamp42 b2_37_Seed43 b2_37_Over44 b2_37_Winner45 l4_0_23_46 r62 v) (fun jJ69=>
 (if(decide (vt22_66<0))=true then
  jJ69 (l1_0_23_8.length:Int)
 else
  jJ69 vt22_66))
def Sq (jJ67:(Int)→Option (Af×Int)):Option (Af×Int):=
 jJ67 (-1:Int)
def Fh (l1_0_23_8:List (Aa)) (r62:Aa) (control_t8_122:Int):Option ((Int)⊕(Unit⊕Int)):=
 (if(decide (control_t8_122<(l1_0_23_8.length:Int)))=true then
  (AN l1_0_23_8 control_t8_122).bind fun e126=>
  (AN l1_0_23_8 control_t8_122).bind fun e127=>
  (if(decide (r62.Id<e127.Id))=true then
   some (.inr (.inr control_t8_122))
  else
   some (.inl (Al (control_t8_122+1))))
 else
  some (.inr (.inl ())))
def Ld (a2:Int) (a4:Bool) (r2:Af) (l1_0_23_8:List (Aa)) (n1000003_0_0_23_32:Int) (l1000003_0_0_23_33:List (Ar)) (b2_37_Turn35:Int) (b2_37_Active36:Int) (b2_37_Step37:Int) (b2_37_Begun38:Bool) (b2_37_Priority39:Int) (b2_37_Passes40:Int) (b2_37_NextId41:Int) (b2_37_NextStamp42:Int) (b2_37_Seed43:Int) (b2_37_Over44:Int) (b2_37_Winner45:Int) (l4_0_23_46:List (AW)) (r62:Aa) (control_t8_63:Int):Option (Af×Int):=
 (if(decide (0≤control_t8_63))=true then
  none
 else
  jn (fun(v:Int)=>TS a2 a4 r2 l1_0_23_8 n1000003_0_0_23_32 l1000003_0_0_23_33 b2_37_Turn35 b2_37_Active36 b2_37_Step37 b2_37_Begun38 b2_37_Priority39 b2_37_Passes40 b2_37_NextId41 b2_37_NextStamp42 b2_37_Seed43 b2_37_Over44 b2_37_Winner45 l4_0_23_46 r62 v) (fun jJ67=>
  jn (fun(v:Unit)=>Sq jJ67) (fun jJ120=>
  (iter (fun(v:Int)=>Fh l1_0_23_8 r62 v) FU (0:Int)).bind (Sum.elim (fun o0=>jJ120 ()) (fun o1=>jJ67 o1)))))
def Kn (jJ64:(Int)→Option (Af×Int)):Option (Af×Int):=
 jJ64 (-1:Int)
def Fi (l1_0_23_8:List (Aa)) (r62:Aa) (control_t8_131:Int):Option ((Int)⊕(Unit⊕Int)):=
 (if(decide (control_t8_131<(l1_0_23_8.length:Int)))=true then
  (AN l1_0_23_8 control_t8_131).bind fun e135=>
  (AN l1_0_23_8 control_t8_131).bind fun e136=>
  (if(e136.Id==r62.Id)=true then
   some (.inr (.inr control_t8_131))
  else
   some (.inl (Al (control_t8_131+1))))
 else
  some (.inr (.inl ())))
def FR (a2:Int) (a3:Int) (a4:Bool) (r1:Aa×Bool) (r2:Af) (l1_0_23_8:List (Aa)) (n1000003_0_0_23_32:Int) (l1000003_0_0_23_33:List (Ar)) (b2_37_Turn35:Int) (b2_37_Active36:Int) (b2_37_Step37:Int) (b2_37_Begun38:Bool) (b2_37_Priority39:Int) (b2_37_Passes40:Int) (b2_37_NextId41:Int) (b2_37_NextStamp42:Int) (b2_37_Seed43:Int) (b2_37_Over44:Int) (b2_37_Winner45:Int) (l4_0_23_46:List (AW)) (b5_Turn47:Int) (b5_Active48:Int) (b5_Step49:Int) (b5_Begun50:Bool) (b5_Priority51:Int) (b5_Passes52:Int) (b5_NextId53:Int) (b5_NextStamp54:Int) (b5_Seed55:Int) (b5_Over56:Int) (b5_Winner57:Int):Option (Af×Int):=
 (some (if r1.1.Token=true then a2 != 0 else false)).bind fun b59=>
 (some (if b59=true then a2 != 5 else false)).bind fun b60=>
 (if b60=true then
  none
 else
  (Jx r1.1 b2_37_NextId41 a2 a3 b2_37_NextStamp42).bind fun r62=>
  jn (fun(v:Int)=>Ld a2 a4 r2 l1_0_23_8 n1000003_0_0_23_32 l1000003_0_0_23_33 b2_37_Turn35 b2_37_Active36 b2_37_Step37 b2_37_Begun38 b2_37_Priority39 b2_37_Passes40 b2_37_NextId41 b2_37_NextStamp42 b2_37_Seed43 b2_37_Over44 b2_37_Winner45 l4_0_23_46 r62 v) (fun jJ64=>
  jn (fun(v:Unit)=>Kn jJ64) (fun jJ129=>
  (iter (fun(v:Int)=>Fi l1_0_23_8 r62 v) FU (0:Int)).bind (Sum.elim (fun o0=>jJ129 ()) (fun o1=>jJ64 o1)))))
def Sr (b2_37_Turn9:Int) (b2_37_Active10:Int) (b2_37_Step11:Int) (b2_37_Begun12:Bool) (b2_37_Priority13:Int) (b2_37_Passes14:Int) (b2_37_NextId15:Int) (b2_37_NextStamp16:Int) (b2_37_Seed17:Int) (b2_37_Over18:Int) (b2_37_Winner19:Int) (b5_Turn20:Int) (b5_Active21:Int) (b5_Step22:Int) (b5_Begun23:Bool) (b5_Priority24:Int) (b5_Passes25:Int) (b5_NextId26:Int) (b5_NextStamp27:Int) (b5_Seed28:Int) (b5_Over29:Int) (b5_Winner30:Int) (jJ58:(Int×Int×Int×Bool×Int×Int×Int×Int×Int×Int×Int×(List (AW))×Int×Int×Int×Bool×Int×Int×Int×Int×Int×Int×Int)→Option (Af×Int)) (s_t5_141:Int) (l4_0_23_142:List (AW)):Option (Af×Int):=
 (AS (0≤s_t5_141∧s_t5_141≤((l4_0_23_142.length:Nat):Int)∧((l4_0_23_142.length:Nat):Int)≤((l4_0_23_142.length:Nat):Int)∧0<l4_0_23_142.length)).bind fun u144=>
 (AS (s_t5_141+(((l4_0_23_142.length:Nat):Int) - s_t5_141)≤((l4_0_23_142.length:Nat):Int)∧0<l4_0_23_142.length)).bind fun u145=>
 (some (l4_0_23_142.take s_t5_141.toNat++(List.replicate (((l4_0_23_142.length:Nat):Int) - s_t5_141).toNat (⟨0,0,0,0,0,false,(⟨0,(⟨0,0,0,0,0,0,0,[],0,0,(⟨0,0⟩:Gu),(⟨0,0⟩:Gu),(⟨0,0⟩:Gu)⟩:Fb),([]:List (KX)),(⟨(⟨0,0,(⟨0,0,0,0,0⟩:A5 (Int))⟩:GA),false,false,0⟩:fK),false,(⟨0,0,(⟨0,0,0,0,0,0,0,[],0,0,(⟨0,0⟩:Gu),(⟨0,0⟩:Gu),(⟨0,0⟩:Gu)⟩:Fb)⟩:Ya),false,([]:List (H9)),([]:List (BT)),(⟨0,0,(⟨0,0,0,0,0,0,0,[],0,0,(⟨0,0⟩:Gu),(⟨0,0⟩:Gu),(⟨0,0⟩:Gu)⟩:Fb),0,0,0,0⟩:Yb)⟩:Cs),([]:List (D1)),(⟨0,0,0,0,0,0,0,0,0,0,false,false,(⟨0,0,0⟩:A3 (Int))⟩:ZS)⟩:AW)++l4_0_23_142.drop (s_t5_141.toNat+(((l4_0_23_142.length:Nat):Int) - s_t5_141).toNat)))).bind fun l146=>
 (AS (0≤(0:Int)∧0≤s_t5_141∧s_t5_141≤((l146.length:Nat):Int)∧0<l146.length)).bind fun u147=>
 (AS ((0:Int)=0∧(s_t5_141 - 0)≤((l146.length:Nat):Int)∧0<l146.length)).bind fun u148=>
 jJ58 (b2_37_Turn9,b2_37_Active10,b2_37_Step11,b2_37_Begun12,b2_37_Priority13,b2_37_Passes14,b2_37_NextId15,b2_37_NextStamp16,b2_37_Seed17,b2_37_Over18,b2_37_Winner19,(l146.take (s_t5_141 - 0).toNat),b5_Turn20,b5_Active21,b5_Step22,b5_Begun23,b5_Priority24,b5_Passes25,b5_NextId26,b5_NextStamp27,b5_Seed28,b5_Over29,b5_Winner30)
def Ss (id_t6_155:Int) (s_t5_161:Int) (l4_0_23_162:List (AW)):Option ((Int×Int×(List (AW)))⊕((Int×(List (AW))))):=
 some (.inl (s_t5_161,(Al (id_t6_155+1)),l4_0_23_162))
def Su (r1:Aa×Bool) (s_t5_154:Int) (id_t6_155:Int) (l4_0_23_156:List (AW)):Option ((Int×Int×(List (AW)))⊕((Int×(List (AW))))):=
 (if(decide (id_t6_155<(l4_0_23_156.length:Int)))=true then
  jn (fun(v:Int×(List (AW)))=>Ss id_t6_155 v.1 v.2) (fun jJ163=>
  (AN l4_0_23_156 id_t6_155).bind fun e164=>
  (AN l4_0_23_156 id_t6_155).bind fun e165=>
  (some (if(e165.Id==r1.1.Id)=true then e165.Kind==1 else false)).bind fun b166=>
  (if(!b166)=true then
   (AN l4_0_23_156 s_t5_154).bind fun e168=>
   (AN l4_0_23_156 s_t5_154).bind fun e170=>
   (some (l4_0_23_156.set (s_t5_154).toNat e165)).bind fun l169=>
   jJ163 ((Al (s_t5_154+1)),l169)
  else
   jJ163 (s_t5_154,l4_0_23_156)))
 else
  some (.inr (s_t5_154,l4_0_23_156)))
def Sv (r1:Aa×Bool) (r2:Af) (b2_37_Turn9:Int) (b2_37_Active10:Int) (b2_37_Step11:Int) (b2_37_Begun12:Bool) (b2_37_Priority13:Int) (b2_37_Passes14:Int) (b2_37_NextId15:Int) (b2_37_NextStamp16:Int) (b2_37_Seed17:Int) (b2_37_Over18:Int) (b2_37_Winner19:Int) (b5_Turn20:Int) (b5_Active21:Int) (b5_Step22:Int) (b5_Begun23:Bool) (b5_Priority24:Int) (b5_Passes25:Int) (b5_NextId26:Int) (b5_NextStamp27:Int) (b5_Seed28:Int) (b5_Over29:Int) (b5_Winner30:Int) (jJ58:(Int×Int×Int×Bool×Int×Int×Int×Int×Int×Int×Int×(List (AW))×Int×Int×Int×Bool×Int×Int×Int×Int×Int×Int×Int)→Option (Af×Int)) (vt10_138:Int):Option (Af×Int):=
 (if(vt10_138==(-1:Int))=true then
  jJ58 (b2_37_Turn9,b2_37_Active10,b2_37_Step11,b2_37_Begun12,b2_37_Priority13,b2_37_Passes14,b2_37_NextId15,b2_37_NextStamp16,b2_37_Seed17,b2_37_Over18,b2_37_Winner19,r2.Stack,b5_Turn20,b5_Active21,b5_Step22,b5_Begun23,b5_Priority24,b5_Passes25,b5_NextId26,b5_NextStamp27,b5_Seed28,b5_Over29,b5_Winner30)
 else
  jn (fun(v:Int×(List (AW)))=>Sr b2_37_Turn9 b2_37_Active10 b2_37_Step11 b2_37_Begun12 b2_37_Priority13 b2_37_Passes14 b2_37_NextId15 b2_37_NextStamp16 b2_37_Seed17 b2_37_Over18 b2_37_Winner19 b5_Turn20 b5_Active21 b5_Step22 b5_Begun23 b5_Priority24 b5_Passes25 b5_NextId26 b5_NextStamp27 b5_Seed28 b5_Over29 b5_Winner30 jJ58 v.1 v.2) (fun jJ143=>
  (iter (fun(v:Int×Int×(List (AW)))=>Su r1 v.1 v.2.1 v.2.2) FU (vt10_138,(Al (vt10_138+1)),r2.Stack)).bind (fun o0=>jJ143 (o0.1,o0.2))))
def Sw (jJ139:(Int)→Option (Af×Int)):Option (Af×Int):=
 jJ139 (-1:Int)
def Ko (r1:Aa×Bool) (r2:Af) (control_t8_173:Int):Option ((Int)⊕(Unit⊕Int)):=
 (if(decide (control_t8_173<(r2.Stack.length:Int)))=true then
  (AN r2.Stack control_t8_173).bind fun e177=>
  (AN r2.Stack control_t8_173).bind fun e178=>
  (some (if(e178.Id==r1.1.Id)=true then e178.Kind==1 else false)).bind fun b179=>
  (if b179=true then
   some (.inr (.inr control_t8_173))
  else
   some (.inl (Al (control_t8_173+1))))
 else
  some (.inr (.inl ())))
def CN (a2:Int) (a3:Int) (a4:Bool) (r1:Aa×Bool) (r2:Af) (l1_0_23_8:List (Aa)) (b2_37_Turn9:Int) (b2_37_Active10:Int) (b2_37_Step11:Int) (b2_37_Begun12:Bool) (b2_37_Priority13:Int) (b2_37_Passes14:Int) (b2_37_NextId15:Int) (b2_37_NextStamp16:Int) (b2_37_Seed17:Int) (b2_37_Over18:Int) (b2_37_Winner19:Int) (b5_Turn20:Int) (b5_Active21:Int) (b5_Step22:Int) (b5_Begun23:Bool) (b5_Priority24:Int) (b5_Passes25:Int) (b5_NextId26:Int) (b5_NextStamp27:Int) (b5_Seed28:Int) (b5_Over29:Int) (b5_Winner30:Int) (n1000003_0_0_23_32:Int) (l1000003_0_0_23_33:List (Ar)):Option (Af×Int):=
 jn (fun(v:Int×Int×Int×Bool×Int×Int×Int×Int×Int×Int×Int×(List (AW))×Int×Int×Int×Bool×Int×Int×Int×Int×Int×Int×Int)=>FR a2 a3 a4 r1 r2 l1_0_23_8 n1000003_0_0_23_32 l1000003_0_0_23_33 v.1 v.2.1 v.2.2.1 v.2.2.2.1 v.2.2.2.2.1 v.2.2.2.2.2.1 v.2.2.2.2.2.2.1 v.2.2.2.2.2.2.2.1 v.2.2.2.2.2.2.2.2.1 v.2.2.2.2.2.2.2.2.2.1 v.2.2.2.2.2.2.2.2.2.2.1 v.2.2.2.2.2.2.2.2.2.2.2.1 v.2.2.2.2.2.2.2.2.2.2.2.2.1 v.2.2.2.2.2.2.2.2.2.2.2.2.2.1 v.2.2.2.2.2.2.2.2.2.2.2.2.2.2.1 v.2.2.2.2.2.2.2.2.2.2.2.2.2.2.2.1 v.2.2.2.2.2.2.2.2.2.2.2.2.2.2.2.2.1 v.2.2.2.2.2.2.2.2.2.2.2.2.2.2.2.2.2.1 v.2.2.2.2.2.2.2.2.2.2.2.2.2.2.2.2.2.2.1 v.2.2.2.2.2.2.2.2.2.2.2.2.2.2.2.2.2.2.2.1 v.2.2.2.2.2.2.2.2.2.2.2.2.2.2.2.2.2.2.2.2.1 v.2.2.2.2.2.2.2.2.2.2.2.2.2.2.2.2.2.2.2.2.2.1 v.2.2.2.2.2.2.2.2.2.2.2.2.2.2.2.2.2.2.2.2.2.2) (fun jJ58=>
 jn (fun(v:Int)=>Sv r1 r2 b2_37_Turn9 b2_37_Active10 b2_37_Step11 b2_37_Begun12 b2_37_Priority13 b2_37_Passes14 b2_37_NextId15 b2_37_NextStamp16 b2_37_Seed17 b2_37_Over18 b2_37_Winner19 b5_Turn20 b5_Active21 b5_Step22 b5_Begun23 b5_Priority24 b5_Passes25 b5_NextId26 b5_NextStamp27 b5_Seed28 b5_Over29 b5_Winner30 jJ58 v) (fun jJ139=>
 jn (fun(v:Unit)=>Sw jJ139) (fun jJ171=>
 (iter (fun(v:Int)=>Ko r1 r2 v) FU (0:Int)).bind (Sum.elim (fun o0=>jJ171 ()) (fun o1=>jJ139 o1)))))
def Le (a2:Int) (a3:Int) (a4:Bool) (r1:Aa×Bool) (r2:Af) (l1_0_23_8:List (Aa)) (b2_37_Turn9:Int) (b2_37_Active10:Int) (b2_37_Step11:Int) (b2_37_Begun12:Bool) (b2_37_Priority13:Int) (b2_37_Passes14:Int) (b2_37_NextId15:Int) (b2_37_NextStamp16:Int) (b2_37_Seed17:Int) (b2_37_Over18:Int) (b2_37_Winner19:Int) (b5_Turn20:Int) (b5_Active21:Int) (b5_Step22:Int) (b5_Begun23:Bool) (b5_Priority24:Int) (b5_Passes25:Int) (b5_NextId26:Int) (b5_NextStamp27:Int) (b5_Seed28:Int) (b5_Over29:Int) (b5_Winner30:Int):Option (Af×Int):=
 jn (fun(v:Int×(List (Ar)))=>CN a2 a3 a4 r1 r2 l1_0_23_8 b2_37_Turn9 b2_37_Active10 b2_37_Step11 b2_37_Begun12 b2_37_Priority13 b2_37_Passes14 b2_37_NextId15 b2_37_NextStamp16 b2_37_Seed17 b2_37_Over18 b2_37_Winner19 b5_Turn20 b5_Active21 b5_Step22 b5_Begun23 b5_Priority24 b5_Passes25 b5_NextId26 b5_NextStamp27 b5_Seed28 b5_Over29 b5_Winner30 v.1 v.2) (fun jJ34=>
 (if(r1.1.Zone==0)=true then
  none
 else
  (if(r1.1.Zone==4)=true then
   none
  else
   (some (if(decide (r1.1.Owner<0))=true then true else decide ((r2.Players.length:Int)≤r1.1.Owner))).bind fun b183=>
   (if b183=true then
    none
   else
    (AN r2.Players r1.1.Owner).bind fun e185=>
    (if(r1.1.Zone==1)=true then
     (if true=true then
      (AN r2.Players r1.1.Owner).bind fun e188=>
      (AS (r1.1.Owner<((r2.Players.length:Nat):Int))).bind fun u189=>
      (B5 e188.Hand r1.1.Id).bind fun r190=>
      (AN r2.Players r1.1.Owner).bind fun e191=>
      (AS (r1.1.Owner<((r2.Players.length:Nat):Int))).bind fun u192=>
      (AS (r1.1.Owner=r1.1.Owner)).bind fun u193=>
      (some (r2.Players.set (r1.1.Owner).toNat ({e191 with Hand:=r190}))).bind fun l194=>
      jJ34 (((r2.Players.length:Nat):Int),l194)
     else
      jJ34 (((r2.Players.length:Nat):Int),r2.Players))
    else
     (if(r1.1.Zone==2)=true then
      (if true=true then
       (AN r2.Players r1.1.Owner).bind fun e197=>
       (AS (r1.1.Owner<((r2.Players.length:Nat):Int))).bind fun u198=>
       (B5 e197.Library r1.1.Id).bind fun r199=>
       (AN r2.Players r1.1.Owner).bind fun e200=>
       (AS (r1.1.Owner<((r2.Players.length:Nat):Int))).bind fun u201=>
       (AS (r1.1.Owner=r1.1.Owner)).bind fun u202=>
       (some (r2.Players.set (r1.1.Owner).toNat ({e200 with Library:=r199}))).bind fun l203=>
       jJ34 (((r2.Players.length:Nat):Int),l203)
      else
       jJ34 (((r2.Players.length:Nat):Int),r2.Players))
     else
      (if(r1.1.Zone==3)=true then
       none
      else
       none)))))))
def C6 (a2:Int) (a3:Int) (a4:Bool) (r1:Aa×Bool) (r2:Af) (control_t8_6:Int):Option (Af×Int):=
 jn (fun(v:(List (Aa))×Int×Int×Int×Bool×Int×Int×Int×Int×Int×Int×Int×Int×Int×Int×Bool×Int×Int×Int×Int×Int×Int×Int)=>Le a2 a3 a4 r1 r2 v.1 v.2.1 v.2.2.1 v.2.2.2.1 v.2.2.2.2.1 v.2.2.2.2.2.1 v.2.2.2.2.2.2.1 v.2.2.2.2.2.2.2.1 v.2.2.2.2.2.2.2.2.1 v.2.2.2.2.2.2.2.2.2.1 v.2.2.2.2.2.2.2.2.2.2.1 v.2.2.2.2.2.2.2.2.2.2.2.1 v.2.2.2.2.2.2.2.2.2.2.2.2.1 v.2.2.2.2.2.2.2.2.2.2.2.2.2.1 v.2.2.2.2.2.2.2.2.2.2.2.2.2.2.1 v.2.2.2.2.2.2.2.2.2.2.2.2.2.2.2.1 v.2.2.2.2.2.2.2.2.2.2.2.2.2.2.2.2.1 v.2.2.2.2.2.2.2.2.2.2.2.2.2.2.2.2.2.1 v.2.2.2.2.2.2.2.2.2.2.2.2.2.2.2.2.2.2.1 v.2.2.2.2.2.2.2.2.2.2.2.2.2.2.2.2.2.2.2.1 v.2.2.2.2.2.2.2.2.2.2.2.2.2.2.2.2.2.2.2.2.1 v.2.2.2.2.2.2.2.2.2.2.2.2.2.2.2.2.2.2.2.2.2.1 v.2.2.2.2.2.2.2.2.2.2.2.2.2.2.2.2.2.2.2.2.2.2) (fun jJ31=>
 (AS (0≤control_t8_6∧control_t8_6≤(Al (control_t8_6+1))∧(Al (control_t8_6+1))≤(r2.Objects.length:Int)∧(r2.Objects.length:Int)≤((r2.Objects.length:Nat):Int))).bind fun u205=>
 (if(control_t8_6==(Al (control_t8_6+1)))=true then
  jJ31 (r2.Objects,r2.Turn,r2.Active,r2.Step,r2.Begun,r2.Priority,r2.Passes,r2.NextId,r2.NextStamp,r2.Seed,r2.Over,r2.Winner,r2.Turn,r2.Active,r2.Step,r2.Begun,r2.Priority,r2.Passes,r2.NextId,r2.NextStamp,r2.Seed,r2.Over,r2.Winner)
 else
  (AS (0≤(0:Int)∧0≤control_t8_6∧control_t8_6≤((r2.Objects.length:Nat):Int)∧0<r2.Objects.length)).bind fun u207=>
  (AS (0≤(Al (control_t8_6+1))∧(Al (control_t8_6+1))≤((r2.Objects.length:Nat):Int)∧((r2.Objects.length:Nat):Int)≤((r2.Objects.length:Nat):Int)∧0<r2.Objects.length)).bind fun u208=>
  (AS ((0:Int)=0∧(control_t8_6 - 0)+(((r2.Objects.length:Nat):Int) - (Al (control_t8_6+1)))≤((r2.Objects.length:Nat):Int)∧(Al (control_t8_6+1))+(((r2.Objects.length:Nat):Int) - (Al (control_t8_6+1)))≤((r2.Objects.length:Nat):Int)∧0<r2.Objects.length)).bind fun u209=>
  (some (r2.Objects.take (control_t8_6 - 0).toNat ++((r2.Objects.drop (Al (control_t8_6+1)).toNat).take (((r2.Objects.length:Nat):Int) - (Al (control_t8_6+1))).toNat ++r2.Objects.drop ((control_t8_6 - 0).toNat +(((r2.Objects.length:Nat):Int) - (Al (control_t8_6+1))).toNat)))).bind fun l210=>
  (AS ((0:Int)=0∧0≤((((control_t8_6 - 0)+(((r2.Objects.length:Nat):Int) - (Al (control_t8_6+1)))).toNat :Nat):Int)∧((((control_t8_6 - 0)+(((r2.Objects.length:Nat):Int) - (Al (control_t8_6+1)))).toNat :Nat):Int)≤(r2.Objects.length:Int)∧(r2.Objects.length:Int)≤((l210.length:Nat):Int)∧0<l210.length)).bind fun u211=>
  (AS (((((control_t8_6 - 0)+(((r2.Objects.length:Nat):Int) - (Al (control_t8_6+1)))).toNat :Nat):Int)+((r2.Objects.length:Int) - ((((control_t8_6 - 0)+(((r2.Objects.length:Nat):Int) - (Al (control_t8_6+1)))).toNat :Nat):Int))≤((l210.length:Nat):Int)∧0<l210.length)).bind fun u212=>
  (some (l210.take ((((control_t8_6 - 0)+(((r2.Objects.length:Nat):Int) - (Al (control_t8_6+1)))).toNat :Nat):Int).toNat ++(List.replicate ((r2.Objects.length:Int) - ((((control_t8_6 - 0)+(((r2.Objects.length:Nat):Int) - (Al (control_t8_6+1)))).toNat :Nat):Int)).toNat (⟨0,0,0,0,0,false,false,false,false,0,(⟨0,0,0⟩:A3 (Int)),0,0,0,false,0,0⟩:Aa)++l210.drop (((((control_t8_6 - 0)+(((r2.Objects.length:Nat):Int) - (Al (control_t8_6+1)))).toNat :Nat):Int).toNat +((r2.Objects.length:Int) - ((((control_t8_6 - 0)+(((r2.Objects.length:Nat):Int) - (Al (control_t8_6+1)))).toNat :Nat):Int)).toNat)))).bind fun l213=>
  (AS ((0:Int)=0∧((control_t8_6 - 0)+(((r2.Objects.length:Nat):Int) - (Al (control_t8_6+1))))≤((l213.length:Nat):Int)∧0<l213.length)).bind fun u214=>
  jJ31 ((l213.take ((control_t8_6 - 0)+(((r2.Objects.length:Nat):Int) - (Al (control_t8_6+1)))).toNat),r2.Turn,r2.Active,r2.Step,r2.Begun,r2.Priority,r2.Passes,r2.NextId,r2.NextStamp,r2.Seed,r2.Over,r2.Winner,r2.Turn,r2.Active,r2.Step,r2.Begun,r2.Priority,r2.Passes,r2.NextId,r2.NextStamp,r2.Seed,r2.Over,r2.Winner)))
def Sx (jJ7:(Int)→Option (Af×Int)):Option (Af×Int):=
 jJ7 (-1:Int)
def A2 (r1:Aa×Bool) (r2:Af) (control_t8_217:Int):Option ((Int)⊕(Unit⊕Int)):=
 (if(decide (control_t8_217<(r2.Objects.length:Int)))=true then
  (AN r2.Objects control_t8_217).bind fun e221=>
  (AN r2.Objects control_t8_217).bind fun e222=>
  (if(e222.Id==r1.1.Id)=true then
   some (.inr (.inr control_t8_217))
  else
   some (.inl (Al (control_t8_217+1))))
 else
  some (.inr (.inl ())))
def Cm (a0:Af) (a1:Int) (a2:Int) (a3:Int) (a4:Bool):Option (Af×Int):=
 (KQ a0 a1).bind fun r1=>
 (FJ a0).bind fun r2=>
 (some (if(!r1.2)=true then true else decide (a2<0))).bind fun b3=>
 (some (if b3=true then true else decide (5<a2))).bind fun b4=>
 (if b4=true then
  none
 else
  jn (fun(v:Int)=>C6 a2 a3 a4 r1 r2 v) (fun jJ7=>
  jn (fun(v:Unit)=>Sx jJ7) (fun jJ215=>
  (iter (fun(v:Int)=>A2 r1 r2 v) FU (0:Int)).bind (Sum.elim (fun o0=>jJ215 ()) (fun o1=>jJ7 o1)))))
def Ph:CE TE Tryz.prog I0:=CG [Yj,Ie,PD,Sh,IT] An Av 9 38 Tryz.f38 (Tryz.f38.body.getD .skip) (.s .n (.s .n (.s (.r [] [] (.q 1 .co .n)) (.s (.s .n (.i .x .n)) (.s (.r [] [] (.c 2 (.s (.r [] [] (.g 0 (.ug [2,3,4,5,10,12,37]) .n)) (.s (.r [] [] (.c 3 (.s (.r [] [] (.g 0 (.ug [2,3,4,10]) .n)) (.s (.r [] [] (.j 3 ⟨[],[(8, .c (.v (.k (.int .i64))))],[[2,37],[1,0,23],[2,0,23],[3,0,23],[3,37],[4,0,23],[4,37],[5],[5,0,23],[6,0,23],[10],[12],[16,0,23],[1000003,0,0,23]],[]⟩ (.s (.r [] [] (.g 0 (.ug [8]) .n)) (.j ⟨[],[],[[2,37],[1,0,23],[2,0,23],[3,0,23],[3,37],[4,0,23],[4,37],[5],[5,0,23],[6,0,23],[10],[12],[16,0,23],[1000003,0,0,23]],[]⟩ (.s .n (.l ⟨[0,1,7],[(8, .c (.v (.k (.int .i64))))],[[1,0,23],[2,37],[2,0,23],[3,0,23],[3,10,37],[3,37],[4,0,23],[4,37],[5],[5,0,23],[6,0,23],[10],[12],[16,0,23],[1000003,0,0,23]],[]⟩ [(1,⟨[],[],[[2,37],[1,0,23],[2,0,23],[3,0,23],[3,37],[4,0,23],[4,37],[5],[5,0,23],[6,0,23],[10],[12],[16,0,23],[1000003,0,0,23]],[]⟩),(0,⟨[],[(4, .c (.v (.k (.int .i64))))],[[2,37],[1,0,23],[2,0,23],[3,0,23],[3,37],[4,0,23],[4,37],[5],[5,0,23],[6,0,23],[10],[12],[16,0,23],[1000003,0,0,23]],[]⟩)] (.s .n (.s .n (.s (.s .n (.s (.r [] [] (.c 5 (.s (.r [] [] (.g 0 (.ug [0,1,5,7,8,16]) .n)) .n) .n)) .n)) .n))))) .n)) .n)) .n)) .n)) (.s (.r [] [] (.j 5 ⟨[2,3,4],[(16, .c (.c (.osl [1,0,23])))],[[2,0,23],[3,0,23],[3,37],[4,0,23],[4,37],[5,0,23],[6,0,23],[10],[12],[16,0,23],[1000003,0,0,23]],[([1,0,23], .row 60),([2,37], .box [.c (.osl [1000003,0,0,23]), .c (.any), .c (.osl [2,0,23]), .c (.osl [3,0,23]), .c (.osl [4,0,23]), .c (.osl [5,0,23]), .c (.osl [6,0,23]), .v (.k (.int .i64)), .v (.k (.int .i64)), .v (.k (.int .i64)), .v (.k (.bool)), .v (.k (.int .i64)), .v (.k (.int .i64)), .v (.k (.int .i64)), .v (.k (.int .i64)), .v (.k (.int .u64)), .c (.osl [16,0,23]), .v (.k (.int .i64)), .v (.k (.int .i64))]),([5], .box [.c (.osl [1000003,0,0,23]), .c (.any), .c (.osl [2,0,23]), .c (.osl [3,0,23]), .c (.osl [4,0,23]), .c (.osl [5,0,23]), .c (.osl [6,0,23]), .v (.k (.int .i64)), .v (.k (.int .i64)), .v (.k (.int .i64)), .v (.k (.bool)), .v (.k (.int .i64)), .v (.k (.int .i64)), .v (.k (.int .i64)), .v (.k (.int .i64)), .v (.k (.int .u64)), .c (.osl [16,0,23]), .v (.k (.int .i64)), .v (.k (.int .i64))])]⟩ (.s (.r [] [] (.g 0 (.ug [2,3,4,16]) .n)) (.s (.r [] [] (.q 5 (.sub false) .n)) (.s .n (.s .n (.s (.r [] [] (.t (.q 2 (.sub true) (.q 5 (.sub true) (.q 6 .apb .n))))) (.s (.r [] [] (.q 4 (.sub true) (.q 5 .clr .n))) (.s (.r [] [] (.g 1 (.tr 32) .n)) .n))))))) .n)) (.j ⟨[2,3,4],[],[[2,37],[1,0,23],[2,0,23],[3,0,23],[3,37],[4,0,23],[4,37],[5],[5,0,23],[6,0,23],[10],[12],[16,0,23]],[([1000003,0,0,23], .deep 52)]⟩ (.s (.r [] [] (.c 4 (.s (.r [] [] (.g 0 (.ug [2,3,4,22]) .n)) (.s (.s .n (.s .n (.i .x (.s .n (.i .x .n))))) (.s (.s .n (.i .x .n)) (.s .n (.s (.s .n (.s .n (.i .n (.s .n (.i .n (.s .n (.i .x .n))))))) .x))))) .n)) (.s .n (.i (.r [] [] (.t (.q 3 .au (.q 6 .co (.q 8 .au .n))))) .n))) (.s (.r [] [] (.j 3 ⟨[2,4],[(36, .c (.c (.osl [4,0,23])))],[[1,0,23],[2,0,23],[3,0,23],[4,37],[5,0,23],[6,0,23],[10],[12],[16,0,23],[1000003,0,0,23]],[([2,37], .box [.c (.osl [1000003,0,0,23]), .c (.osl [1,0,23]), .c (.osl [2,0,23]), .c (.osl [3,0,23]), .c (.any), .c (.osl [5,0,23]), .c (.osl [6,0,23]), .v (.k (.int .i64)), .v (.k (.int .i64)), .v (.k (.int .i64)), .v (.k (.bool)), .v (.k (.int .i64)), .v (.k (.int .i64)), .v (.k (.int .i64)), .v (.k (.int .i64)), .v (.k (.int .u64)), .c (.osl [16,0,23]), .v (.k (.int .i64)), .v (.k (.int .i64))]),([4,0,23], .row 110),([5], .box [.c (.osl [1000003,0,0,23]), .c (.any), .c (.osl [2,0,23]), .c (.osl [3,0,23]), .c (.any), .c (.osl [5,0,23]), .c (.osl [6,0,23]), .v (.k (.int .i64)), .v (.k (.int .i64)), .v (.k (.int .i64)), .v (.k (.bool)), .v (.k (.int .i64)), .v (.k (.int .i64)), .v (.k (.int .i64)), .v (.k (.int .i64)), .v (.k (.int .u64)), .c (.osl [16,0,23]), .v (.k (.int .i64)), .v (.k (.int .i64))])]⟩ (.s (.r [] [] (.g 0 (.ug [2,4,36]) .n)) (.s (.r [] [] (.j 2 ⟨[0,1],[(10, .c (.v (.k (.int .i64))))],[[2,37],[1,0,23],[2,0,23],[3,0,23],[3,37],[4,0,23],[4,37],[5],[5,0,23],[6,0,23],[10],[12],[16,0,23],[1000003,0,0,23]],[]⟩ (.s (.r [] [] (.g 0 (.ug [0,1,10]) .n)) (.j ⟨[],[],[[2,37],[1,0,23],[2,0,23],[3,0,23],[3,37],[4,0,23],[4,37],[5],[5,0,23],[6,0,23],[10],[12],[16,0,23],[1000003,0,0,23]],[]⟩ (.s .n (.l ⟨[0,1,7],[(8, .c (.v (.k (.int .i64))))],[[2,37],[1,0,23],[2,0,23],[3,0,23],[3,37],[4,0,23],[4,37],[5],[5,0,23],[6,0,23],[10],[12],[16,0,23],[1000003,0,0,23]],[]⟩ [(1,⟨[],[],[[2,37],[1,0,23],[2,0,23],[3,0,23],[3,37],[4,0,23],[4,37],[5],[5,0,23],[6,0,23],[10],[12],[16,0,23],[1000003,0,0,23]],[]⟩),(0,⟨[],[(4, .c (.v (.k (.int .i64))))],[[2,37],[1,0,23],[2,0,23],[3,0,23],[3,37],[4,0,23],[4,37],[5],[5,0,23],[6,0,23],[10],[12],[16,0,23],[1000003,0,0,23]],[]⟩)] (.s .n (.s .n (.s (.s .n (.s (.r [] [] (.c 5 (.s (.r [] [] (.g 0 (.ug [0,1,5,7,8,16]) .n)) .n) .n)) .n)) .n))))) .n)) .n)) (.s .n (.j ⟨[0],[(5, .c (.v (.k (.int .i64))))],[[2,37],[1,0,23],[2,0,23],[3,0,23],[4,37],[5],[5,0,23],[6,0,23],[10],[12],[16,0,23],[1000003,0,0,23]],[([4,0,23], .row 110)]⟩ (.s .n (.l ⟨[0,1],[(5, .c (.v (.k (.int .i64)))),(6, .c (.v (.k (.int .i64))))],[[2,37],[1,0,23],[2,0,23],[3,0,23],[3,37],[4,37],[5],[5,0,23],[6,0,23],[10],[12],[16,0,23],[1000003,0,0,23]],[([4,0,23], .row 110)]⟩ [(1,⟨[0],[(5, .c (.v (.k (.int .i64))))],[[2,37],[1,0,23],[2,0,23],[3,0,23],[4,37],[5],[5,0,23],[6,0,23],[10],[12],[16,0,23],[1000003,0,0,23]],[([4,0,23], .row 110)]⟩)] (.s .n (.j ⟨[0,1,6],[(5, .c (.v (.k (.int .i64))))],[[2,37],[1,0,23],[2,0,23],[3,0,23],[3,37],[4,37],[5],[5,0,23],[6,0,23],[10],[12],[16,0,23],[1000003,0,0,23]],[([4,0,23], .row 110)]⟩ (.s .n (.s (.r [] [] (.c 2 (.s (.r [] [] (.g 0 (.ug [0,1,5,6,7,28]) .n)) .n) .n)) .n)) .n)))) (.s (.r [] [] (.q 2 (.sub true) (.q 3 .clr .n))) (.s (.r [] [] (.q 2 (.sub true) (.g 3 (.tr 41) .n))) .n)))))) .n)) .n))))) .n)) (.s (.s .n (.i .x .n)) (.s .n (.s (.r [] [] (.c 2 (.s (.r [] [] (.g 0 (.ug [2,4,5,10,14,59]) .n)) (.s (.s (.r [] [] (.c 3 (.s (.r [] [] (.g 0 (.ug [2,3,4,10]) .n)) (.s (.r [] [] (.j 3 ⟨[],[(8, .c (.v (.k (.int .i64))))],[[2,59],[1,0,23],[2,0,23],[3,0,23],[3,59],[4,0,23],[4,59],[5],[5,0,23],[6,0,23],[10],[14],[16,0,23],[1000003,0,0,23]],[]⟩ (.s (.r [] [] (.g 0 (.ug [8]) .n)) (.j ⟨[],[],[[2,59],[1,0,23],[2,0,23],[3,0,23],[3,59],[4,0,23],[4,59],[5],[5,0,23],[6,0,23],[10],[14],[16,0,23],[1000003,0,0,23]],[]⟩ (.s .n (.l ⟨[0,1,7],[(8, .c (.v (.k (.int .i64))))],[[1,0,23],[2,59],[2,0,23],[3,0,23],[3,10,59],[3,59],[4,0,23],[4,59],[5],[5,0,23],[6,0,23],[10],[14],[16,0,23],[1000003,0,0,23]],[]⟩ [(1,⟨[],[],[[2,59],[1,0,23],[2,0,23],[3,0,23],[3,59],[4,0,23],[4,59],[5],[5,0,23],[6,0,23],[10],[14],[16,0,23],[1000003,0,0,23]],[]⟩),(0,⟨[],[(4, .c (.v (.k (.int .i64))))],[[2,59],[1,0,23],[2,0,23],[3,0,23],[3,59],[4,0,23],[4,59],[5],[5,0,23],[6,0,23],[10],[14],[16,0,23],[1000003,0,0,23]],[]⟩)] (.s .n (.s .n (.s (.s .n (.s (.r [] [] (.c 5 (.s (.r [] [] (.g 0 (.ug [0,1,5,7,8,16]) .n)) .n) .n)) .n)) .n))))) .n)) .n)) .n)) .n)) (.s .n (.i .x .n))) (.s (.r [] [] (.j 3 ⟨[2,3,4],[(22, .c (.v (.k (.int .i64))))],[[2,59],[1,0,23],[2,0,23],[3,0,23],[3,59],[4,0,23],[4,59],[5],[5,0,23],[6,0,23],[10],[14],[16,0,23],[1000003,0,0,23]],[]⟩ (.s (.r [] [] (.g 0 (.ug [2,3,4,22]) .n)) (.j ⟨[],[],[[2,59],[1,0,23],[2,0,23],[3,0,23],[3,59],[4,0,23],[4,59],[5],[5,0,23],[6,0,23],[10],[14],[16,0,23],[1000003,0,0,23]],[]⟩ (.s .n (.l ⟨[0,1,7],[(8, .c (.v (.k (.int .i64))))],[[1,0,23],[2,59],[2,0,23],[3,0,23],[3,59],[4,0,23],[4,59],[5],[5,0,23],[6,0,23],[10],[14],[16,0,23],[1000003,0,0,23]],[]⟩ [(1,⟨[],[],[[2,59],[1,0,23],[2,0,23],[3,0,23],[3,59],[4,0,23],[4,59],[5],[5,0,23],[6,0,23],[10],[14],[16,0,23],[1000003,0,0,23]],[]⟩),(0,⟨[],[(4, .c (.v (.k (.int .i64))))],[[2,59],[1,0,23],[2,0,23],[3,0,23],[3,59],[4,0,23],[4,59],[5],[5,0,23],[6,0,23],[10],[14],[16,0,23],[1000003,0,0,23]],[]⟩)] (.s .n (.s .n (.s (.s .n (.s (.r [] [] (.c 5 (.s (.r [] [] (.g 0 (.ug [0,1,5,7,8,16]) .n)) .n) .n)) .n)) .n))))) .n)) .n)) (.j ⟨[2,3,4],[(6, .c (.v (.k (.int .i64))))],[[2,59],[1,0,23],[2,0,23],[3,0,23],[3,59],[4,0,23],[4,59],[5],[5,0,23],[6,0,23],[10],[14],[16,0,23],[1000003,0,0,23]],[]⟩ .n (.s (.r [] [] (.c 5 (.s (.r [] [] (.g 0 (.ug [2,4,33]) .n)) (.s (.r [] [] (.q 2 (.sub true) .n)) (.s .n (.s (.s .n (.i .x .n)) (.s .n (.s .n (.s .x .n))))))) .n)) .n))))) .n)) (.s .n (.s .n (.j ⟨[5,10,14],[],[[5],[1,0,23],[2,0,23],[3,0,23],[4,0,23],[5,0,23],[6,0,23],[10],[14],[16,0,23]],[([1000003,0,0,23], .deep 52)]⟩ (.s (.r [] [] (.c 3 (.s (.r [] [] (.g 0 (.ug [2,4,5,10,14,71]) .n)) (.s (.s .n (.s .n (.i .x (.s .n (.i .x .n))))) (.s (.s .n (.i .x .n)) (.s .n (.s (.s .n (.s .n (.i .n (.s .n (.i .n (.s .n (.i .x .n))))))) .x))))) .n)) (.s .n (.i (.s .n (.i (.r [] [] (.t (.q 3 .au (.q 7 .ins (.q 9 .au .n))))) (.r [] [] (.t (.q 3 .au (.q 9 .au .n)))))) .n))) (.s (.r [] [] (.t (.g 0 (.fd [1000003,0,0,23]) .n))) .n)))))))))))) [.s 31, .k (.int .i64), .k (.int .i64), .k (.int .i64), .k (.bool)] [.s 31, .k (.int .i64)] (fun x=>Cm x.1 x.2.1 x.2.2.1 x.2.2.2.1 x.2.2.2.2.1) Tryz.func38 rfl (by kernel_rfl)
def PJ:Option (Bool):=
 some true
def PM (a0:Bw) (a1:List (Int)) (vt10_5:Int) (l5_6:List (Int)):Option ((Int×(List (Int)))⊕(Unit⊕Bool)):=
 (if(decide (vt10_5<(a1.length:Int)))=true then
  (AN a1 vt10_5).bind fun e10=>
  (AN a0.Options e10).bind fun e11=>
  (Vf l5_6 e11.A).bind fun r12=>
  (if r12=true then
   some (.inr (.inr false))
  else
   (AN a0.Options e10).bind fun e14=>
   (EW 8 l5_6 ([e14.A]:List (Int))).bind fun l15=>
   some (.inl ((Al (vt10_5+1)),l15)))
 else
  some (.inr (.inl ())))
def M4 (a0:Bw) (a1:List (Int)):Option (Bool):=
 jn (fun(v:Unit)=>PJ) (fun jJ1=>
 (iter (fun(v:Int×(List (Int)))=>PM a0 a1 v.1 v.2) FU ((0:Int),([]:List (Int)))).bind (Sum.elim (fun o0=>jJ1 ()) (fun o1=>some o1)))
def Sy:CE TE Tryz.prog I0:=CG [Yn] An Av 9 59 Tryz.f59 (Tryz.f59.body.getD .skip) (.s .n (.s .n (.j ⟨[],[],[],[]⟩ (.s .n (.l ⟨[2,8,9],[(5, .c (.c (.osl [5]))),(10, .c (.v (.k (.int .i64))))],[[2]],[([5], .row 3)]⟩ [(1,⟨[],[],[],[]⟩),(0,⟨[],[(4, .c (.v (.k (.bool))))],[],[]⟩)] .n)) .n))) [.s 45, .k (.lst 3)] [.k (.bool)] (fun x=>M4 x.1 x.2.1) Tryz.func59 rfl (by kernel_rfl)
def Yo (r1:Af) (n1000003_0_0_11_2:Int) (l1000003_0_0_11_3:List (Ar)):Option (Af):=
 some (⟨l1000003_0_0_11_3,r1.Objects,r1.Battlefield,r1.Exile,r1.Stack,r1.Waiting,r1.Conts,r1.Turn,r1.Active,r1.Step,r1.Begun,r1.Priority,r1.Passes,r1.NextId,r1.NextStamp,r1.Seed,r1.Extra,r1.Over,r1.Winner⟩:Af)
def Kp (a0:Af) (a1:Int) (a2:Int) (a3:List (Int)):Option (Af):=
 (FJ a0).bind fun r1=>
 jn (fun(v:Int×(List (Ar)))=>Yo r1 v.1 v.2) (fun jJ4=>
 (if(a1==0)=true then
  none
 else
  (if(a1==4)=true then
   none
  else
   (some (if(decide (a2<0))=true then true else decide ((r1.Players.length:Int)≤a2))).bind fun b7=>
   (if b7=true then
    none
   else
    (AN r1.Players a2).bind fun e9=>
    (if(a1==1)=true then
     (if true=true then
      (Am a3).bind fun r12=>
      (AN r1.Players a2).bind fun e13=>
      (AS (a2<((r1.Players.length:Nat):Int))).bind fun u14=>
      (some (r1.Players.set (a2).toNat ({e13 with Hand:=r12}))).bind fun l15=>
      jJ4 (((r1.Players.length:Nat):Int),l15)
     else
      jJ4 (((r1.Players.length:Nat):Int),r1.Players))
    else
     (if(a1==2)=true then
      (if true=true then
       (Am a3).bind fun r18=>
       (AN r1.Players a2).bind fun e19=>
       (AS (a2<((r1.Players.length:Nat):Int))).bind fun u20=>
       (some (r1.Players.set (a2).toNat ({e19 with Library:=r18}))).bind fun l21=>
       jJ4 (((r1.Players.length:Nat):Int),l21)
      else
       jJ4 (((r1.Players.length:Nat):Int),r1.Players))
     else
      (if(a1==3)=true then
       none
      else
       none)))))))
def Z9:CE TE Tryz.prog I0:=CG [Ie,Bp] An Av 9 43 Tryz.f43 (Tryz.f43.body.getD .skip) (.s .n (.s (.r [] [] (.q 1 .co .n)) (.j ⟨[4,8],[],[[4],[1,0,11],[2,0,11],[3,0,11],[4,0,11],[5,0,11],[6,0,11],[8],[16,0,11]],[([1000003,0,0,11], .deep 52)]⟩ (.s (.r [] [] (.c 2 (.s (.r [] [] (.g 0 (.ug [3,4,8,14]) .n)) (.s (.s .n (.s .n (.i .x (.s .n (.i .x .n))))) (.s (.s .n (.i .x .n)) (.s .n (.s (.s .n (.s .n (.i .n (.s .n (.i .n (.s .n (.i .x .n))))))) .x))))) .n)) (.s .n (.i (.r [] [] (.q 2 .co (.q 4 .au .n))) .n))) (.s (.r [] [] (.g 0 (.fd [1000003,0,0,11]) .n)) .n)))) [.s 31, .k (.int .i64), .k (.int .i64), .k (.lst 3)] [.s 31] (fun x=>Kp x.1 x.2.1 x.2.2.1 x.2.2.2.1) Tryz.func43 rfl (by kernel_rfl)
end Go.PL
