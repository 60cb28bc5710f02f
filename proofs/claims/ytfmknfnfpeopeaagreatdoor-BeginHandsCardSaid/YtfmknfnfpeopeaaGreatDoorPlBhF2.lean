/- Functions of the program, as partial functions in Lean, with proofs. -/
import Derived.Test.YtfmknfnfpeopeaaGreatDoorPlBhB
import Derived.Test.YtfmknfnfpeopeaaGreatDoorPlBhF0
import Derived.Test.YtfmknfnfpeopeaaGreatDoorPlBhF1
namespace Go.PL
open Go Go.RowKit Go.Proofs
set_option maxRecDepth 100000
set_option linter.all false
set_option maxHeartbeats 4000000
attribute [local irreducible] Ae C0 C3
def Yk (a0:DH) (spells_t3_19:Int):Option (Bool):=
 (Sd a0).bind fun r21=>
 (if r21=true then
  (some (if(!a0.Token)=true then a0.Keys==0 else false)).bind fun b23=>
  (some (if b23=true then(a0.Abilities.length:Int)==1 else false)).bind fun b24=>
  (some (if b24=true then spells_t3_19==1 else false)).bind fun b25=>
  some b25
 else
  (gd ((spells_t3_19==0)==true) (K9 a0)).bind fun r26=>
  (some (if(!r26)=true then true else a0.Cost==(⟨0,0,(⟨0,0,0,0,0⟩:A5 (Int))⟩:GA))).bind fun b27=>
  (some (if(spells_t3_19==0)=true then b27 else false)).bind fun b28=>
  some b28)
def Ym (a0:DH) (spells_t3_31:Int) (vt76_32:Int):Option ((Int×Int)⊕(Int)):=
 (if(decide (vt76_32<(a0.Abilities.length:Int)))=true then
  (AN a0.Abilities vt76_32).bind fun e36=>
  none
 else
  some (.inr spells_t3_31))
def bj (a0:DH):Option (Bool):=
 (Qe a0.Name).bind fun r1=>
 (gd ((!r1)==false) (bh a0.Cost)).bind fun r2=>
 (some (if(!r1)=true then true else !r2)).bind fun b3=>
 (gd (b3==false) (bi a0.Line)).bind fun r4=>
 (some (if b3=true then true else !r4)).bind fun b5=>
 (gd (b5==false) (Sc a0.Keys)).bind fun r6=>
 (some (if b5=true then true else !r6)).bind fun b7=>
 (gd (b7==false) (Ye a0.Color)).bind fun r8=>
 (some (if b7=true then true else !r8)).bind fun b9=>
 (if b9=true then
  some false
 else
  (some (if(decide (a0.Power<0))=true then true else decide (99<a0.Power))).bind fun b11=>
  (some (if b11=true then true else decide (a0.Tough<0))).bind fun b12=>
  (some (if b12=true then true else decide (99<a0.Tough))).bind fun b13=>
  (some (if(a0.Power != 0)=true then true else a0.Tough != 0)).bind fun b14=>
  (some (if((Yw .i64 a0.Line.Types (1:Int))==(0:Int))=true then b14 else false)).bind fun b15=>
  (some (if b13=true then true else b15)).bind fun b16=>
  (if b16=true then
   some false
  else
   (if(decide (8<(a0.Abilities.length:Int)))=true then
    some false
   else
    jn (fun(v:Int)=>Yk a0 v) (fun jJ20=>
    (iter (fun(v:Int×Int)=>Ym a0 v.1 v.2) FU ((0:Int),(0:Int))).bind (fun o0=>jJ20 o0)))))
def dj:CE TE Tryz.prog I0:=CG [E_word_Is,dh,di,Ww,Z7,Wx,Pt] An Av 9 44 Tryz.f44 (Tryz.f44.body.getD .skip) (.s .n (.s .n (.s .n (.s .n (.s .n (.j ⟨[1],[(3, .c (.v (.k (.int .i64))))],[[1]],[]⟩ (.s .n (.l ⟨[1,74,75],[(3, .c (.v (.k (.int .i64)))),(76, .c (.v (.k (.int .i64))))],[[1]],[]⟩ [(1,⟨[1],[(3, .c (.v (.k (.int .i64))))],[[1]],[]⟩)] (.s .n (.s .n (.s (.s .n (.s .x .n)) .n))))) .n)))))) [.s 70] [.k (.bool)] (fun x=>bj x.1) Tryz.func44 rfl (by kernel_rfl)
def PF (seed_t0_2:Int) (l0_0_10_3:List (Int)):Option ((List (Int))×Int):=
 some (l0_0_10_3,seed_t0_2)
def Bg (seed_t0_10:Int) (i_t7_11:Int) (l0_0_10_12:List (Int)):Option ((Int×Int×(List (Int)))⊕((Int×(List (Int))))):=
 (if(decide (0<i_t7_11))=true then
  (Jw seed_t0_10 (Al (i_t7_11+1))).bind fun r17=>
  (AN l0_0_10_12 r17.1).bind fun e18=>
  (AN l0_0_10_12 r17.1).bind fun e19=>
  (AN l0_0_10_12 i_t7_11).bind fun e20=>
  (AN l0_0_10_12 i_t7_11).bind fun e21=>
  (AN l0_0_10_12 i_t7_11).bind fun e22=>
  (AN l0_0_10_12 i_t7_11).bind fun e24=>
  (some (l0_0_10_12.set (i_t7_11).toNat e19)).bind fun l23=>
  (AN l23 r17.1).bind fun e25=>
  (AN l23 r17.1).bind fun e27=>
  (some (l23.set (r17.1).toNat e21)).bind fun l26=>
  some (.inl (r17.2,(Al (i_t7_11 - 1)),l26))
 else
  some (.inr (seed_t0_10,l0_0_10_12)))
def CH (a0:Int) (a1:List (Int)):Option ((List (Int))×Int):=
 (Am a1).bind fun r1=>
 jn (fun(v:Int×(List (Int)))=>PF v.1 v.2) (fun jJ4=>
 (iter (fun(v:Int×Int×(List (Int)))=>Bg v.1 v.2.1 v.2.2) FU (a0,(Al ((r1.length:Int) - (1:Int))),r1)).bind (fun o0=>jJ4 (o0.1,o0.2)))
def Km:CE TE Tryz.prog I0:=CG [Bp,WC] An Av 9 13 Tryz.f13 (Tryz.f13.body.getD .skip) (.s .n (.s (.r [] [] (.q 1 .co .n)) (.j ⟨[6],[(0, .c (.v (.k (.int .u64))))],[],[([0,0,10], .row 3)]⟩ (.s .n (.l ⟨[6],[(0, .c (.v (.k (.int .u64)))),(7, .c (.v (.k (.int .i64))))],[],[([0,0,10], .row 3)]⟩ [(1,⟨[6],[(0, .c (.v (.k (.int .u64))))],[],[([0,0,10], .row 3)]⟩)] (.s .n (.s (.s .n (.r [] [] (.t .n))) .n)))) .n))) [.k (.int .u64), .k (.lst 3)] [.k (.lst 3), .k (.int .u64)] (fun x=>CH x.1 x.2.1) Tryz.func13 rfl (by kernel_rfl)
def TK (a0:Af) (n1000003_0_0_9_2:Int) (l1000003_0_0_9_3:List (Ar)) (r5:(List (Aa))) (r6:(List (Int))) (r7:(List (Int))) (l0_0_42_9:List (AW)) (l0_0_77_12:List (AC)) (l0_0_100_15:List (B4)):Option (Af):=
 (Am a0.Extra).bind fun r17=>
 (AS (n1000003_0_0_9_2=((l1000003_0_0_9_3.length:Nat):Int))).bind fun _=>
 some (⟨l1000003_0_0_9_3,r5,r6,r7,l0_0_42_9,l0_0_77_12,l0_0_100_15,a0.Turn,a0.Active,a0.Step,a0.Begun,a0.Priority,a0.Passes,a0.NextId,a0.NextStamp,a0.Seed,r17,a0.Over,a0.Winner⟩:Af)
def TL (r14:(List (B4))) (vt105_21:Int) (l0_0_100_22:List (B4)):Option ((Int×(List (B4)))⊕((List (B4)))):=
 (if(decide (vt105_21<(r14.length:Int)))=true then
  (AN l0_0_100_22 vt105_21).bind fun e26=>
  (AN l0_0_100_22 vt105_21).bind fun e27=>
  (Am e27.Objects).bind fun r28=>
  (AN l0_0_100_22 vt105_21).bind fun e29=>
  (AN l0_0_100_22 vt105_21).bind fun e31=>
  (some (l0_0_100_22.set (vt105_21).toNat ({e31 with Objects:=r28}))).bind fun l30=>
  (AN l30 vt105_21).bind fun e32=>
  (AN l30 vt105_21).bind fun e33=>
  (AP e33.Mods).bind fun r34=>
  (AN l30 vt105_21).bind fun e35=>
  (AN l30 vt105_21).bind fun e37=>
  (some (l30.set (vt105_21).toNat ({e37 with Mods:=r34}))).bind fun l36=>
  some (.inl ((Al (vt105_21+1)),l36))
 else
  some (.inr l0_0_100_22))
def TM (a0:Af) (n1000003_0_0_9_2:Int) (l1000003_0_0_9_3:List (Ar)) (r5:(List (Aa))) (r6:(List (Int))) (r7:(List (Int))) (l0_0_42_9:List (AW)) (l0_0_77_12:List (AC)):Option (Af):=
 (Bs a0.Conts).bind fun r14=>
 jn (fun(v:(List (B4)))=>TK a0 n1000003_0_0_9_2 l1000003_0_0_9_3 r5 r6 r7 l0_0_42_9 l0_0_77_12 v) (fun jJ16=>
 (iter (fun(v:Int×(List (B4)))=>TL r14 v.1 v.2) FU ((0:Int),r14)).bind (fun o0=>jJ16 o0))
def TN (r11:(List (AC))) (vt82_41:Int) (l0_0_77_42:List (AC)):Option ((Int×(List (AC)))⊕((List (AC)))):=
 (if(decide (vt82_41<(r11.length:Int)))=true then
  (AN l0_0_77_42 vt82_41).bind fun e46=>
  (AN l0_0_77_42 vt82_41).bind fun e47=>
  (FG e47.Ability).bind fun r48=>
  (AN l0_0_77_42 vt82_41).bind fun e49=>
  (AN l0_0_77_42 vt82_41).bind fun e51=>
  (some (l0_0_77_42.set (vt82_41).toNat ({e51 with Ability:=r48}))).bind fun l50=>
  some (.inl ((Al (vt82_41+1)),l50))
 else
  some (.inr l0_0_77_42))
def TO (a0:Af) (n1000003_0_0_9_2:Int) (l1000003_0_0_9_3:List (Ar)) (r5:(List (Aa))) (r6:(List (Int))) (r7:(List (Int))) (l0_0_42_9:List (AW)):Option (Af):=
 (AZ a0.Waiting).bind fun r11=>
 jn (fun(v:(List (AC)))=>TM a0 n1000003_0_0_9_2 l1000003_0_0_9_3 r5 r6 r7 l0_0_42_9 v) (fun jJ13=>
 (iter (fun(v:Int×(List (AC)))=>TN r11 v.1 v.2) FU ((0:Int),r11)).bind (fun o0=>jJ13 o0))
def TP (r8:(List (AW))) (vt47_55:Int) (l0_0_42_56:List (AW)):Option ((Int×(List (AW)))⊕((List (AW)))):=
 (if(decide (vt47_55<(r8.length:Int)))=true then
  (AN l0_0_42_56 vt47_55).bind fun e60=>
  (AN l0_0_42_56 vt47_55).bind fun e61=>
  (FG e61.Ability).bind fun r62=>
  (AN l0_0_42_56 vt47_55).bind fun e63=>
  (AN l0_0_42_56 vt47_55).bind fun e65=>
  (some (l0_0_42_56.set (vt47_55).toNat ({e65 with Ability:=r62}))).bind fun l64=>
  (AN l64 vt47_55).bind fun e66=>
  (AN l64 vt47_55).bind fun e67=>
  (Bc e67.Targets).bind fun r68=>
  (AN l64 vt47_55).bind fun e69=>
  (AN l64 vt47_55).bind fun e71=>
  (some (l64.set (vt47_55).toNat ({e71 with Targets:=r68}))).bind fun l70=>
  some (.inl ((Al (vt47_55+1)),l70))
 else
  some (.inr l0_0_42_56))
def Jy (a0:Af) (n1000003_0_0_9_2:Int) (l1000003_0_0_9_3:List (Ar)):Option (Af):=
 (AK a0.Objects).bind fun r5=>
 (Am a0.Battlefield).bind fun r6=>
 (Am a0.Exile).bind fun r7=>
 (Bq a0.Stack).bind fun r8=>
 jn (fun(v:(List (AW)))=>TO a0 n1000003_0_0_9_2 l1000003_0_0_9_3 r5 r6 r7 v) (fun jJ10=>
 (iter (fun(v:Int×(List (AW)))=>TP r8 v.1 v.2) FU ((0:Int),r8)).bind (fun o0=>jJ10 o0))
def Dg (r1:(List (Ar))) (vt14_76:Int) (n1000003_0_0_9_77:Int) (l1000003_0_0_9_78:List (Ar)):Option ((Int×Int×(List (Ar)))⊕((Int×(List (Ar))))):=
 (if(decide (vt14_76<(r1.length:Int)))=true then
  (AN l1000003_0_0_9_78 vt14_76).bind fun e83=>
  (AN l1000003_0_0_9_78 vt14_76).bind fun e84=>
  (AS (n1000003_0_0_9_77≤vt14_76)).bind fun u85=>
  (CA e84).bind fun r86=>
  (AN l1000003_0_0_9_78 vt14_76).bind fun e87=>
  (AN l1000003_0_0_9_78 vt14_76).bind fun e88=>
  (AS (vt14_76=n1000003_0_0_9_77)).bind fun u89=>
  (some (l1000003_0_0_9_78.set (vt14_76).toNat (⟨r86.Life,r86.Venom,r86.Lands,r86.Pool,r86.Failed,r86.Lost,r86.Library,r86.Hand,r86.Graveyard⟩:Ar))).bind fun l90=>
  some (.inl ((Al (vt14_76+1)),(n1000003_0_0_9_77+1),l90))
 else
  some (.inr (n1000003_0_0_9_77,l1000003_0_0_9_78)))
def FJ (a0:Af):Option (Af):=
 (AJ a0.Players).bind fun r1=>
 jn (fun(v:Int×(List (Ar)))=>Jy a0 v.1 v.2) (fun jJ4=>
 (iter (fun(v:Int×Int×(List (Ar)))=>Dg r1 v.1 v.2.1 v.2.2) FU ((0:Int),(0:Int),r1)).bind (fun o0=>jJ4 (o0.1,o0.2)))
def Ie:CE TE Tryz.prog I0:=fG [D9,M0,Ea,Bp,Fc,L5,Ec,DN,Ff,CU] An Av 9 16 Tryz.f16 (Tryz.f16.body.getD .skip) (.s .n (.s (.r [] [] (.q 2 .co (.g 3 (.dp 9) .n))) (.j ⟨[1,2],[],[[1],[2]],[([1000003,0,0,9], .deep 52)]⟩ (.s .n (.l ⟨[1,2,13],[(14, .c (.v (.k (.int .i64))))],[[1],[2]],[([1000003,0,0,9], .deep 52)]⟩ [(1,⟨[1,2],[],[[1],[2]],[([1000003,0,0,9], .deep 52)]⟩)] (.s .n (.s .n (.s (.s .n (.r [] [] (.t (.q 8 .co (.q 10 .au .n))))) .n))))) (.s (.r [] [] (.q 2 .co .n)) (.s (.r [] [] (.q 2 .co .n)) (.s (.r [] [] (.q 2 .co .n)) (.s (.r [] [] (.q 2 .co .n)) (.j ⟨[1,2],[],[[1],[0,0,30],[0,0,34],[0,0,38],[2],[1000003,0,0,9]],[([0,0,42], .row 110)]⟩ (.s .n (.l ⟨[1,2,46],[(47, .c (.v (.k (.int .i64))))],[[1],[0,0,30],[0,0,34],[0,0,38],[2],[1000003,0,0,9]],[([0,0,42], .row 110)]⟩ [(3,⟨[1,2],[],[[1],[0,0,30],[0,0,34],[0,0,38],[2],[1000003,0,0,9]],[([0,0,42], .row 110)]⟩)] (.s .n (.s .n (.s (.s .n (.s (.r [] [] (.t .n)) (.r [] [] (.t .n)))) .n))))) (.s (.r [] [] (.q 2 .co .n)) (.j ⟨[1,2],[],[[1],[0,0,30],[0,0,34],[0,0,38],[0,0,42],[2],[1000003,0,0,9]],[([0,0,77], .row 117)]⟩ (.s .n (.l ⟨[1,2,81],[(82, .c (.v (.k (.int .i64))))],[[1],[0,0,30],[0,0,34],[0,0,38],[0,0,42],[2],[1000003,0,0,9]],[([0,0,77], .row 117)]⟩ [(5,⟨[1,2],[],[[1],[0,0,30],[0,0,34],[0,0,38],[0,0,42],[2],[1000003,0,0,9]],[([0,0,77], .row 117)]⟩)] (.s .n (.s .n (.s (.s .n (.r [] [] (.t .n))) .n))))) (.s (.r [] [] (.q 2 .co .n)) (.j ⟨[1,2],[],[[1],[0,0,30],[0,0,34],[0,0,38],[0,0,42],[0,0,77],[2],[1000003,0,0,9]],[([0,0,100], .row 120)]⟩ (.s .n (.l ⟨[1,2,104],[(105, .c (.v (.k (.int .i64))))],[[1],[0,0,30],[0,0,34],[0,0,38],[0,0,42],[0,0,77],[2],[1000003,0,0,9]],[([0,0,100], .row 120)]⟩ [(7,⟨[1,2],[],[[1],[0,0,30],[0,0,34],[0,0,38],[0,0,42],[0,0,77],[2],[1000003,0,0,9]],[([0,0,100], .row 120)]⟩)] (.s .n (.s .n (.s (.s .n (.s (.r [] [] (.t .n)) (.r [] [] (.t .n)))) .n))))) (.s (.r [] [] (.q 2 .co .n)) .n))))))))))))) [[2,1,1,1,1,1,1,0,0,0,0,0,0,0,0,0,1,0,0]] [.s 31] [.s 31] (fun x=>FJ x.1) Tryz.func16 rfl (by kernel_rfl)
def PG (l5_3:List (Int)) (l6_4:List (Int)):Option ((List (Int))):=
 (EW 8 l6_4 l5_3).bind fun l6=>
 some l6
def N3 (vt21_12:Int) (l5_19:List (Int)) (l6_20:List (Int)):Option ((Int×(List (Int))×(List (Int)))⊕(((List (Int))×(List (Int))))):=
 some (.inl ((Al (vt21_12+1)),l5_19,l6_20))
def N4 (p_t1_1:Int) (r7:(List (Int))) (vt21_12:Int) (l5_13:List (Int)) (l6_14:List (Int)):Option ((Int×(List (Int))×(List (Int)))⊕(((List (Int))×(List (Int))))):=
 (if(decide (vt21_12<(r7.length:Int)))=true then
  jn (fun(v:(List (Int))×(List (Int)))=>N3 vt21_12 v.1 v.2) (fun jJ21=>
  (AN r7 vt21_12).bind fun e22=>
  (JG e22 p_t1_1).bind fun r23=>
  (if(r23==(-1:Int))=true then
   (EW 8 l5_13 ([e22]:List (Int))).bind fun l25=>
   jJ21 (l25,l6_14)
  else
   (if(r23==1)=true then
    (EW 8 l6_14 ([e22]:List (Int))).bind fun l27=>
    jJ21 (l5_13,l27)
   else
    jJ21 (l5_13,l6_14))))
 else
  some (.inr (l5_13,l6_14)))
def PH (a0:Af) (p_t1_1:Int):Option ((List (Int))):=
 jn (fun(v:(List (Int))×(List (Int)))=>PG v.1 v.2) (fun jJ5=>
 (Jv a0).bind fun r7=>
 (iter (fun(v:Int×(List (Int))×(List (Int)))=>N4 p_t1_1 r7 v.1 v.2.1 v.2.2) FU ((0:Int),([]:List (Int)),([]:List (Int)))).bind (fun o0=>jJ5 (o0.1,o0.2)))
def M3 (a0:Af) (a1:Int):Option ((List (Int))):=
 jn (fun(v:Int)=>PH a0 v) (fun jJ2=>
 (some (if(decide (a1<0))=true then true else decide ((a0.Players.length:Int)≤a1))).bind fun b28=>
 (if b28=true then
  jJ2 (-1:Int)
 else
  jJ2 a1))
def Sl:CE TE Tryz.prog I0:=CG [Kk,M1] An Av 9 35 Tryz.f35 (Tryz.f35.body.getD .skip) (.s .n (.j ⟨[2],[(1, .c (.v (.k (.int .i64))))],[[2]],[]⟩ .n (.s .n (.j ⟨[],[(5, .c (.c (.osl [5]))),(6, .c (.c (.osl [6])))],[],[([5], .row 3),([6], .row 3)]⟩ (.s .n (.l ⟨[1,19,20],[(5, .c (.c (.osl [5]))),(6, .c (.c (.osl [6]))),(21, .c (.v (.k (.int .i64))))],[],[([5], .row 3),([6], .row 3)]⟩ [(1,⟨[],[(5, .c (.c (.osl [5]))),(6, .c (.c (.osl [6])))],[],[([5], .row 3),([6], .row 3)]⟩)] (.s .n (.s .n (.j ⟨[1,19,20,21],[(5, .c (.c (.osl [5]))),(6, .c (.c (.osl [6])))],[],[([5], .row 3),([6], .row 3)]⟩ .n .n))))) .n)))) [.s 31, .k (.int .i64)] [.k (.lst 3)] (fun x=>M3 x.1 x.2.1) Tryz.func35 rfl (by kernel_rfl)
def Sm:Option (Bool):=
 some true
def Sn (a0:Bw) (a1:List (Int)) (vt9_3:Int):Option ((Int)⊕(Unit⊕Bool)):=
 (if(decide (vt9_3<(a1.length:Int)))=true then
  (AN a1 vt9_3).bind fun e7=>
  (some (if(decide (e7<0))=true then true else decide ((a0.Options.length:Int)≤e7))).bind fun b8=>
  (gd (b8==false) (Pg a1 e7)).bind fun r9=>
  (some (if b8=true then true else r9 != vt9_3)).bind fun b10=>
  (if b10=true then
   some (.inr (.inr false))
  else
   some (.inl (Al (vt9_3+1))))
 else
  some (.inr (.inl ())))
def Gf (a0:Bw) (a1:List (Int)):Option (Bool):=
 jn (fun(v:Unit)=>Sm) (fun jJ1=>
 (iter (fun(v:Int)=>Sn a0 a1 v) FU (0:Int)).bind (Sum.elim (fun o0=>jJ1 ()) (fun o1=>some o1)))
def TQ:CE TE Tryz.prog I0:=CG [TJ] An Av 9 58 Tryz.f58 (Tryz.f58.body.getD .skip) (.s .n (.j ⟨[],[],[],[]⟩ (.s .n (.l ⟨[1,2,7,8],[(9, .c (.v (.k (.int .i64))))],[[2]],[]⟩ [(1,⟨[],[],[],[]⟩),(0,⟨[],[(4, .c (.v (.k (.bool))))],[],[]⟩)] .n)) .n)) [.s 45, .k (.lst 3)] [.k (.bool)] (fun x=>Gf x.1 x.2.1) Tryz.func58 rfl (by kernel_rfl)
def Vf (a0:List (Int)) (a1:Int):Option (Bool):=
 (CW a0 a1).bind fun r1=>
 some r1
def Yn:CE TE Tryz.prog I0:=CG [D6] An Av 9 85 Tryz.f85 (Tryz.f85.body.getD .skip) .n [.k (.lst 3), .k (.int .i64)] [.k (.bool)] (fun x=>Vf x.1 x.2.1) Tryz.func85 rfl (by kernel_rfl)
end Go.PL
