/- Functions of the program, as partial functions in Lean, with proofs. -/
import Derived.Test.YtfmknfnfpeopeaaGreatDoorPlBhB
import Derived.Test.YtfmknfnfpeopeaaGreatDoorPlBhF0
import Derived.Test.YtfmknfnfpeopeaaGreatDoorPlBhF1
import Derived.Test.YtfmknfnfpeopeaaGreatDoorPlBhF2
import Derived.Test.YtfmknfnfpeopeaaGreatDoorPlBhF3
import Derived.Test.YtfmknfnfpeopeaaGreatDoorPlBhF4
import Derived.Test.YtfmknfnfpeopeaaGreatDoorPlBhF5
namespace Go.PL
open Go Go.RowKit Go.Proofs
set_option maxRecDepth 100000
set_option linter.all false
set_option maxHeartbeats 4000000
attribute [local irreducible] Ae C0 C3
def PO (r2:Af×Int) (vt20_14:Af):Option (Bool):=
 (FK (⟨([]:List (DH)),([]:List (List (Int))),0,0⟩:Ct)).bind fun r16=>
 (Gb (3:Int) (1:Int)).bind fun r17=>
 (AN r17.Decks (1:Int)).bind fun e18=>
 (AN r17.Decks (1:Int)).bind fun e19=>
 (AS ((1:Int)<((r17.Decks.length:Nat):Int))).bind fun u20=>
 (AN r17.Decks (1:Int)).bind fun e21=>
 (AS ((1:Int)<((r17.Decks.length:Nat):Int))).bind fun u22=>
 (AN e21 (2:Int)).bind fun e23=>
 (AN r17.Decks (1:Int)).bind fun e24=>
 (AS ((1:Int)<((r17.Decks.length:Nat):Int))).bind fun u25=>
 (AN e24 (2:Int)).bind fun e26=>
 (some (r17.Decks.set ((1:Int)).toNat (e24.set ((2:Int)).toNat (1:Int)))).bind fun l27=>
 (FK (⟨r17.Cards,l27,r17.Seed,r17.First⟩:Ct)).bind fun r28=>
 (some (if(r2.2==0)=true then(r2.1.Objects.length:Int)==18 else false)).bind fun b29=>
 (some (if b29=true then r2.1.NextId==19 else false)).bind fun b30=>
 (some (if b30=true then r2.1.Active==1 else false)).bind fun b31=>
 (gd (b31==true) (AN r2.1.Players (0:Int))).bind fun e32=>
 (some (if b31=true then(e32.Library.length:Int)==9 else false)).bind fun b33=>
 (some (if b33=true then r2.1.Turn==0 else false)).bind fun b34=>
 (gd (b34==true) (AN vt20_14.Players (1:Int))).bind fun e35=>
 (some (if b34=true then(e35.Hand.length:Int)==6 else false)).bind fun b36=>
 (gd (b36==true) (AN vt20_14.Players (0:Int))).bind fun e37=>
 (some (if b36=true then(e37.Hand.length:Int)==7 else false)).bind fun b38=>
 (some (if b38=true then vt20_14.Turn==1 else false)).bind fun b39=>
 (some (if b39=true then r16.2==1 else false)).bind fun b40=>
 (some (if b40=true then r28.2==2 else false)).bind fun b41=>
 some b41
def PQ (jJ15:(Af)→Option (Bool)) (b3_20_43:Af):Option (Bool):=
 jJ15 ({{{b3_20_43 with Turn:=(1:Int)}with Step:=(0:Int)}with Begun:=false})
def PR (f_t5_59:List (Ba)) (vt18_60:Int) (b3_20_74:Af) (b7_18_used75:Int) (b7_18_pendingKind76:Int) (b7_18_pendingPlayer77:Int) (b7_18_pendingSource78:Int) (b7_18_pendingLeast79:Int) (b7_18_pendingMost80:Int) (b7_18_pendingN81:Int) (b7_18_waits82:Bool) (b7_18_bad83:Bool):Option (((List (Ba))×Int×Af×Int×Int×Int×Int×Int×Int×Int×Bool×Bool)⊕(Af)):=
 some (.inl (f_t5_59,(Al (vt18_60+1)),b3_20_74,b7_18_used75,b7_18_pendingKind76,b7_18_pendingPlayer77,b7_18_pendingSource78,b7_18_pendingLeast79,b7_18_pendingMost80,b7_18_pendingN81,b7_18_waits82,b7_18_bad83))
def N7 (e85:Int) (g_t8_98:Int) (r131:Af) (vt39_134:List (Int)) (b7_18_used135:Int) (b7_18_pendingKind136:Int) (b7_18_pendingPlayer137:Int) (b7_18_pendingSource138:Int) (b7_18_pendingLeast139:Int) (b7_18_pendingMost140:Int) (b7_18_pendingN141:Int) (b7_18_waits142:Bool) (b7_18_bad143:Bool):Option ((Int×Af×Int×Int×Int×Int×Int×Int×Int×Bool×Bool)⊕((Af×Int×Int×Int×Int×Int×Int×Int×Bool×Bool)⊕(Af×Int×Int×Int×Int×Int×Int×Int×Bool×Bool))):=
 (AN vt39_134 (0:Int)).bind fun e145=>
 (if(e145==0)=true then
  some (.inr (.inr (r131,b7_18_used135,b7_18_pendingKind136,b7_18_pendingPlayer137,b7_18_pendingSource138,b7_18_pendingLeast139,b7_18_pendingMost140,b7_18_pendingN141,b7_18_waits142,b7_18_bad143)))
 else
  (CX r131 e85).bind fun r147=>
  some (.inl ((Al (g_t8_98 - 1)),r147,b7_18_used135,b7_18_pendingKind136,b7_18_pendingPlayer137,b7_18_pendingSource138,b7_18_pendingLeast139,b7_18_pendingMost140,b7_18_pendingN141,b7_18_waits142,b7_18_bad143)))
def N8 (l1000_7_18_12:List (List (Int))) (f_t5_59:List (Ba)) (e85:Int) (g_t8_98:Int) (b3_20_99:Af) (b7_18_used100:Int) (b7_18_pendingKind101:Int) (b7_18_pendingPlayer102:Int) (b7_18_pendingSource103:Int) (b7_18_pendingLeast104:Int) (b7_18_pendingMost105:Int) (b7_18_pendingN106:Int) (b7_18_waits107:Bool) (b7_18_bad108:Bool):Option ((Int×Af×Int×Int×Int×Int×Int×Int×Int×Bool×Bool)⊕((Af×Int×Int×Int×Int×Int×Int×Int×Bool×Bool)⊕(Af×Int×Int×Int×Int×Int×Int×Int×Bool×Bool))):=
 (if(decide (0<g_t8_98))=true then
  (Gk b3_20_99 e85 g_t8_98).bind fun r131=>
  (CB r131 (1:Int) e85).bind fun r132=>
  (if((r132.length:Int)==0)=true then
   some (.inr (.inr (r131,b7_18_used100,b7_18_pendingKind101,b7_18_pendingPlayer102,b7_18_pendingSource103,b7_18_pendingLeast104,b7_18_pendingMost105,b7_18_pendingN106,b7_18_waits107,b7_18_bad108)))
  else
   jn (fun(v:(List (Int))×Int×Int×Int×Int×Int×Int×Int×Bool×Bool)=>N7 e85 g_t8_98 r131 v.1 v.2.1 v.2.2.1 v.2.2.2.1 v.2.2.2.2.1 v.2.2.2.2.2.1 v.2.2.2.2.2.2.1 v.2.2.2.2.2.2.2.1 v.2.2.2.2.2.2.2.2.1 v.2.2.2.2.2.2.2.2.2) (fun jJ144=>
   (some (if false=true then true else b7_18_waits107)).bind fun b148=>
   (some (if b148=true then true else b7_18_bad108)).bind fun b149=>
   (gd (b149==false) (HF (⟨11,e85,0,0,0,0,f_t5_59⟩:Bw))).bind fun r150=>
   (some (if b149=true then true else r150)).bind fun b151=>
   (if b151=true then
    (Gd (⟨11,e85,0,0,0,0,f_t5_59⟩:Bw)).bind fun r153=>
    jJ144 (r153,b7_18_used100,b7_18_pendingKind101,b7_18_pendingPlayer102,b7_18_pendingSource103,b7_18_pendingLeast104,b7_18_pendingMost105,b7_18_pendingN106,b7_18_waits107,b7_18_bad108)
   else
    (if(b7_18_used100==(l1000_7_18_12.length:Int))=true then
     none
    else
     (AN l1000_7_18_12 b7_18_used100).bind fun e155=>
     (AN l1000_7_18_12 b7_18_used100).bind fun e156=>
     (KR (⟨11,e85,0,0,0,0,f_t5_59⟩:Bw) e156).bind fun r157=>
     (if(!r157)=true then
      (Gd (⟨11,e85,0,0,0,0,f_t5_59⟩:Bw)).bind fun r159=>
      jJ144 (r159,(Al (b7_18_used100+1)),b7_18_pendingKind101,b7_18_pendingPlayer102,b7_18_pendingSource103,b7_18_pendingLeast104,b7_18_pendingMost105,b7_18_pendingN106,b7_18_waits107,true)
     else
      (B9 e156).bind fun r160=>
      jJ144 (r160,(Al (b7_18_used100+1)),b7_18_pendingKind101,b7_18_pendingPlayer102,b7_18_pendingSource103,b7_18_pendingLeast104,b7_18_pendingMost105,b7_18_pendingN106,b7_18_waits107,b7_18_bad108))))))
 else
  some (.inr (.inl (b3_20_99,b7_18_used100,b7_18_pendingKind101,b7_18_pendingPlayer102,b7_18_pendingSource103,b7_18_pendingLeast104,b7_18_pendingMost105,b7_18_pendingN106,b7_18_waits107,b7_18_bad108))))
def PS (l1000_7_18_12:List (List (Int))) (r45:(List (Int))) (f_t5_59:List (Ba)) (vt18_60:Int) (b3_20_61:Af) (b7_18_used62:Int) (b7_18_pendingKind63:Int) (b7_18_pendingPlayer64:Int) (b7_18_pendingSource65:Int) (b7_18_pendingLeast66:Int) (b7_18_pendingMost67:Int) (b7_18_pendingN68:Int) (b7_18_waits69:Bool) (b7_18_bad70:Bool):Option (((List (Ba))×Int×Af×Int×Int×Int×Int×Int×Int×Int×Bool×Bool)⊕(Af)):=
 (if(decide (vt18_60<(r45.length:Int)))=true then
  jn (fun(v:Af×Int×Int×Int×Int×Int×Int×Int×Bool×Bool)=>PR f_t5_59 vt18_60 v.1 v.2.1 v.2.2.1 v.2.2.2.1 v.2.2.2.2.1 v.2.2.2.2.2.1 v.2.2.2.2.2.2.1 v.2.2.2.2.2.2.2.1 v.2.2.2.2.2.2.2.2.1 v.2.2.2.2.2.2.2.2.2) (fun jJ84=>
  (AN r45 vt18_60).bind fun e85=>
  (iter (fun(v:Int×Af×Int×Int×Int×Int×Int×Int×Int×Bool×Bool)=>N8 l1000_7_18_12 f_t5_59 e85 v.1 v.2.1 v.2.2.1 v.2.2.2.1 v.2.2.2.2.1 v.2.2.2.2.2.1 v.2.2.2.2.2.2.1 v.2.2.2.2.2.2.2.1 v.2.2.2.2.2.2.2.2.1 v.2.2.2.2.2.2.2.2.2.1 v.2.2.2.2.2.2.2.2.2.2) FU ((7:Int),b3_20_61,b7_18_used62,b7_18_pendingKind63,b7_18_pendingPlayer64,b7_18_pendingSource65,b7_18_pendingLeast66,b7_18_pendingMost67,b7_18_pendingN68,b7_18_waits69,b7_18_bad70)).bind (Sum.elim (fun o0=>jJ84 (o0.1,o0.2.1,o0.2.2.1,o0.2.2.2.1,o0.2.2.2.2.1,o0.2.2.2.2.2.1,o0.2.2.2.2.2.2.1,o0.2.2.2.2.2.2.2.1,o0.2.2.2.2.2.2.2.2.1,o0.2.2.2.2.2.2.2.2.2)) (fun o1=>jJ84 (o1.1,o1.2.1,o1.2.2.1,o1.2.2.2.1,o1.2.2.2.2.1,o1.2.2.2.2.2.1,o1.2.2.2.2.2.2.1,o1.2.2.2.2.2.2.2.1,o1.2.2.2.2.2.2.2.2.1,o1.2.2.2.2.2.2.2.2.2))))
 else
  some (.inr b3_20_61))
def PT (r2:Af×Int) (b7_18_used3:Int) (b7_18_pendingKind4:Int) (b7_18_pendingPlayer5:Int) (b7_18_pendingSource6:Int) (b7_18_pendingLeast7:Int) (b7_18_pendingMost8:Int) (b7_18_pendingN9:Int) (b7_18_waits10:Bool) (b7_18_bad11:Bool) (l1000_7_18_12:List (List (Int))):Option (Bool):=
 jn (fun(v:Af)=>PO r2 v) (fun jJ15=>
 (FJ r2.1).bind fun r42=>
 jn (fun(v:Af)=>PQ jJ15 v) (fun jJ44=>
 (Gj (⟨r42.Players,r42.Objects,r42.Battlefield,r42.Exile,r42.Stack,r42.Waiting,r42.Conts,r42.Turn,r42.Active,r42.Step,r42.Begun,r42.Priority,r42.Passes,r42.NextId,r42.NextStamp,r42.Seed,r42.Extra,r42.Over,r42.Winner⟩:Af)).bind fun r45=>
 (iter (fun(v:(List (Ba))×Int×Af×Int×Int×Int×Int×Int×Int×Int×Bool×Bool)=>PS l1000_7_18_12 r45 v.1 v.2.1 v.2.2.1 v.2.2.2.1 v.2.2.2.2.1 v.2.2.2.2.2.1 v.2.2.2.2.2.2.1 v.2.2.2.2.2.2.2.1 v.2.2.2.2.2.2.2.2.1 v.2.2.2.2.2.2.2.2.2.1 v.2.2.2.2.2.2.2.2.2.2.1 v.2.2.2.2.2.2.2.2.2.2.2) FU (([(⟨10,0,0⟩:Ba),(⟨9,0,0⟩:Ba)]:List (Ba)),(0:Int),(⟨r42.Players,r42.Objects,r42.Battlefield,r42.Exile,r42.Stack,r42.Waiting,r42.Conts,r42.Turn,r42.Active,r42.Step,r42.Begun,r42.Priority,r42.Passes,r42.NextId,r42.NextStamp,r42.Seed,r42.Extra,r42.Over,r42.Winner⟩:Af),b7_18_used3,b7_18_pendingKind4,b7_18_pendingPlayer5,b7_18_pendingSource6,b7_18_pendingLeast7,b7_18_pendingMost8,b7_18_pendingN9,b7_18_waits10,b7_18_bad11)).bind (fun o0=>jJ44 o0)))
def N9 (jJ13:(Int×Int×Int×Int×Int×Int×Int×Bool×Bool×(List (List (Int))))→Option (Bool)) (b7_18_used161:Int) (b7_18_pendingKind162:Int) (b7_18_pendingPlayer163:Int) (b7_18_pendingSource164:Int) (b7_18_pendingLeast165:Int) (b7_18_pendingMost166:Int) (b7_18_pendingN167:Int) (b7_18_waits168:Bool) (b7_18_bad169:Bool) (l1000_7_18_170:List (List (Int))):Option (Bool):=
 jJ13 (b7_18_used161,b7_18_pendingKind162,b7_18_pendingPlayer163,b7_18_pendingSource164,b7_18_pendingLeast165,b7_18_pendingMost166,b7_18_pendingN167,b7_18_waits168,b7_18_bad169,l1000_7_18_170)
def Oa (vt10_184:Int) (b7_18_used185:Int) (b7_18_pendingKind186:Int) (b7_18_pendingPlayer187:Int) (b7_18_pendingSource188:Int) (b7_18_pendingLeast189:Int) (b7_18_pendingMost190:Int) (b7_18_pendingN191:Int) (b7_18_waits192:Bool) (b7_18_bad193:Bool) (l1000_7_18_194:List (List (Int))):Option ((Int×Int×Int×Int×Int×Int×Int×Int×Bool×Bool×(List (List (Int))))⊕((Int×Int×Int×Int×Int×Int×Int×Bool×Bool×(List (List (Int)))))):=
 (if(decide (vt10_184<(([([(1:Int)]:List (Int)),([(0:Int)]:List (Int)),([(0:Int)]:List (Int))]:List (List (Int))).length :Int)))=true then
  (AN ([([(1:Int)]:List (Int)),([(0:Int)]:List (Int)),([(0:Int)]:List (Int))]:List (List (Int))) vt10_184).bind fun e207=>
  (AN ([([(1:Int)]:List (Int)),([(0:Int)]:List (Int)),([(0:Int)]:List (Int))]:List (List (Int))) vt10_184).bind fun e208=>
  (B9 e208).bind fun r209=>
  (EW 24 l1000_7_18_194 ([r209]:List (List (Int)))).bind fun l210=>
  some (.inl ((Al (vt10_184+1)),b7_18_used185,b7_18_pendingKind186,b7_18_pendingPlayer187,b7_18_pendingSource188,b7_18_pendingLeast189,b7_18_pendingMost190,b7_18_pendingN191,b7_18_waits192,b7_18_bad193,l210))
 else
  some (.inr (b7_18_used185,b7_18_pendingKind186,b7_18_pendingPlayer187,b7_18_pendingSource188,b7_18_pendingLeast189,b7_18_pendingMost190,b7_18_pendingN191,b7_18_waits192,b7_18_bad193,l1000_7_18_194)))
def Gl:Option (Bool):=
 (Gb (9:Int) (5:Int)).bind fun r1=>
 (FK r1).bind fun r2=>
 jn (fun(v:Int×Int×Int×Int×Int×Int×Int×Bool×Bool×(List (List (Int))))=>PT r2 v.1 v.2.1 v.2.2.1 v.2.2.2.1 v.2.2.2.2.1 v.2.2.2.2.2.1 v.2.2.2.2.2.2.1 v.2.2.2.2.2.2.2.1 v.2.2.2.2.2.2.2.2.1 v.2.2.2.2.2.2.2.2.2) (fun jJ13=>
 jn (fun(v:Int×Int×Int×Int×Int×Int×Int×Bool×Bool×(List (List (Int))))=>N9 jJ13 v.1 v.2.1 v.2.2.1 v.2.2.2.1 v.2.2.2.2.1 v.2.2.2.2.2.1 v.2.2.2.2.2.2.1 v.2.2.2.2.2.2.2.1 v.2.2.2.2.2.2.2.2.1 v.2.2.2.2.2.2.2.2.2) (fun jJ171=>
 (iter (fun(v:Int×Int×Int×Int×Int×Int×Int×Int×Bool×Bool×(List (List (Int))))=>Oa v.1 v.2.1 v.2.2.1 v.2.2.2.1 v.2.2.2.2.1 v.2.2.2.2.2.1 v.2.2.2.2.2.2.1 v.2.2.2.2.2.2.2.1 v.2.2.2.2.2.2.2.2.1 v.2.2.2.2.2.2.2.2.2.1 v.2.2.2.2.2.2.2.2.2.2) FU ((0:Int),(0:Int),(0:Int),(0:Int),(0:Int),(0:Int),(0:Int),(0:Int),false,false,([]:List (List (Int))))).bind (fun o0=>jJ171 (o0.1,o0.2.1,o0.2.2.1,o0.2.2.2.1,o0.2.2.2.2.1,o0.2.2.2.2.2.1,o0.2.2.2.2.2.2.1,o0.2.2.2.2.2.2.2.1,o0.2.2.2.2.2.2.2.2.1,o0.2.2.2.2.2.2.2.2.2))))
def TW:CE TE Tryz.prog I0:=CG [K7,Pj,IU,Ie,Lc,Lf,Ib,MY,Lb,Pi,IY] An Av 9 4 Tryz.f4 (Tryz.f4.body.getD .skip) (.s .n (.s .n (.s (.r [] [] (.t (.q 3 .bf (.j 4 ⟨[1,2,19],[(18, .c (.c (.ptr [7,18] (0))))],[[1]],[([7,18], .box [.c (.osl [1000,7,18]), .v (.k (.int .i64)), .v (.k (.int .i64)), .v (.k (.int .i64)), .v (.k (.int .i64)), .v (.k (.int .i64)), .v (.k (.int .i64)), .v (.k (.int .i64)), .c (.nils), .v (.k (.bool)), .v (.k (.bool))]),([1000,7,18], .row 26)]⟩ (.s (.r [] [] (.g 0 (.ug [1,2,18,19]) .n)) (.s (.r [] [([7,18],0,[1000,7,18],26)] .n) (.j ⟨[3],[],[[1]],[([7,18], .box [.c (.osl [1000,7,18]), .v (.k (.int .i64)), .v (.k (.int .i64)), .v (.k (.int .i64)), .v (.k (.int .i64)), .v (.k (.int .i64)), .v (.k (.int .i64)), .v (.k (.int .i64)), .c (.nils), .v (.k (.bool)), .v (.k (.bool))]),([1000,7,18], .row 26)]⟩ (.s .n (.l ⟨[3,8,9],[(10, .c (.v (.k (.int .i64))))],[[1],[17]],[([7,18], .box [.c (.osl [1000,7,18]), .v (.k (.int .i64)), .v (.k (.int .i64)), .v (.k (.int .i64)), .v (.k (.int .i64)), .v (.k (.int .i64)), .v (.k (.int .i64)), .v (.k (.int .i64)), .c (.nils), .v (.k (.bool)), .v (.k (.bool))]),([1000,7,18], .row 26)]⟩ [(1,⟨[3],[],[[1]],[([7,18], .box [.c (.osl [1000,7,18]), .v (.k (.int .i64)), .v (.k (.int .i64)), .v (.k (.int .i64)), .v (.k (.int .i64)), .v (.k (.int .i64)), .v (.k (.int .i64)), .v (.k (.int .i64)), .c (.nils), .v (.k (.bool)), .v (.k (.bool))]),([1000,7,18], .row 26)]⟩)] (.s .n (.s .n (.s (.s .n (.r [] [] (.t (.q 6 .co (.q 7 .bf .n))))) .n))))) .n))) (.j 6 ⟨[1,2],[(20, .agg [.v (.s 31)])],[[1]],[]⟩ (.s (.r [] [] (.g 0 (.ug [1,2,20]) .n)) (.s (.r [] [] (.q 1 .co .n)) (.s .n (.s .n (.j ⟨[3,4],[],[[1],[4,20]],[([3,20], .box [.v (.s 31)])]⟩ (.s (.r [[3,0,11,20],[4,0,11,20],[16,0,11,20],[5,0,11,20],[2,0,11,20],[1,0,11,20]] [] (.g 0 (.fd [1000003,0,0,11,20]) .n)) (.l ⟨[0,3,4,16,17],[(5, .c (.v (.k (.lst 76)))),(18, .c (.v (.k (.int .i64))))],[[1],[4,20],[1000,7,18]],[([3,20], .box [.v (.s 31)]),([7,18], .box [.c (.osl [1000,7,18]), .v (.k (.int .i64)), .v (.k (.int .i64)), .v (.k (.int .i64)), .v (.k (.int .i64)), .v (.k (.int .i64)), .v (.k (.int .i64)), .v (.k (.int .i64)), .c (.nils), .v (.k (.bool)), .v (.k (.bool))])]⟩ [(1,⟨[3,4],[],[[1],[4,20]],[([3,20], .box [.v (.s 31)])]⟩)] (.s .n (.s .n (.j ⟨[0,3,4,5,16,17,18],[],[[1],[4,20],[1000,7,18]],[([3,20], .box [.v (.s 31)]),([7,18], .box [.c (.osl [1000,7,18]), .v (.k (.int .i64)), .v (.k (.int .i64)), .v (.k (.int .i64)), .v (.k (.int .i64)), .v (.k (.int .i64)), .v (.k (.int .i64)), .v (.k (.int .i64)), .c (.nils), .v (.k (.bool)), .v (.k (.bool))])]⟩ (.s .n (.s .n (.l ⟨[0,3,4,5,7,16,17,18],[(8, .c (.v (.k (.int .i64))))],[[1],[4,20],[1000,7,18]],[([3,20], .box [.v (.s 31)]),([7,18], .box [.c (.osl [1000,7,18]), .v (.k (.int .i64)), .v (.k (.int .i64)), .v (.k (.int .i64)), .v (.k (.int .i64)), .v (.k (.int .i64)), .v (.k (.int .i64)), .v (.k (.int .i64)), .c (.nils), .v (.k (.bool)), .v (.k (.bool))])]⟩ [(3,⟨[0,3,4,5,16,17,18],[],[[1],[4,20],[1000,7,18]],[([3,20], .box [.v (.s 31)]),([7,18], .box [.c (.osl [1000,7,18]), .v (.k (.int .i64)), .v (.k (.int .i64)), .v (.k (.int .i64)), .v (.k (.int .i64)), .v (.k (.int .i64)), .v (.k (.int .i64)), .v (.k (.int .i64)), .c (.nils), .v (.k (.bool)), .v (.k (.bool))])]⟩),(2,⟨[0,3,4,5,16,17,18],[],[[1],[4,20],[1000,7,18]],[([3,20], .box [.v (.s 31)]),([7,18], .box [.c (.osl [1000,7,18]), .v (.k (.int .i64)), .v (.k (.int .i64)), .v (.k (.int .i64)), .v (.k (.int .i64)), .v (.k (.int .i64)), .v (.k (.int .i64)), .v (.k (.int .i64)), .c (.nils), .v (.k (.bool)), .v (.k (.bool))])]⟩)] (.s .n (.s (.s .n (.s .n (.s (.r [] [] (.j 4 ⟨[0,3,4,5,7,8,16,17,18],[(39, .c (.v (.k (.lst 3))))],[[1],[3,20],[4,20],[1000,7,18]],[([7,18], .box [.c (.osl [1000,7,18]), .v (.k (.int .i64)), .v (.k (.int .i64)), .v (.k (.int .i64)), .v (.k (.int .i64)), .v (.k (.int .i64)), .v (.k (.int .i64)), .v (.k (.int .i64)), .c (.nils), .v (.k (.bool)), .v (.k (.bool))])]⟩ (.s (.r [] [] (.g 0 (.ug [0,3,4,5,7,8,16,17,18,39]) .n)) (.s .n (.s (.s .n (.i .x .n)) (.s .n (.s .n (.s .n (.s (.r [] [] (.q 1 .co .n)) .n))))))) .n)) .n))) .n))))) .n))))) .n))))) .n))))) (.s .n (.s (.r [] [] (.q 0 .co .n)) (.s (.r [] [] (.q 3 .mld (.q 4 .mix (.q 5 .mst .n)))) (.s (.r [] [] (.g 0 (.fd [1000003,1,0,26]) .n)) .n))))))) [] [.k (.bool)] (fun x=>Gl) Tryz.func4 rfl (by kernel_rfl)
end Go.PL
