/- Functions of the program, as partial functions in Lean, with proofs. -/
import Derived.Test.YtfmknfnfpeopeaaGreatDoorPlBhB
import Derived.Test.YtfmknfnfpeopeaaGreatDoorPlBhF0
import Derived.Test.YtfmknfnfpeopeaaGreatDoorPlBhF1
import Derived.Test.YtfmknfnfpeopeaaGreatDoorPlBhF2
import Derived.Test.YtfmknfnfpeopeaaGreatDoorPlBhF3
import Derived.Test.YtfmknfnfpeopeaaGreatDoorPlBhF4
import Derived.Test.YtfmknfnfpeopeaaGreatDoorPlBhF5
import Derived.Test.YtfmknfnfpeopeaaGreatDoorPlBhF6
namespace Go.PL
open Go Go.RowKit Go.Proofs
set_option maxRecDepth 100000
set_option linter.all false
set_option maxHeartbeats 4000000
attribute [local irreducible] Ae C0 C3
def DP (a0:Int) (a1:Int) (vt11_13:Int) (vt77_27:Af) (b41:Bool) (q42:Int):Option (Bool):=
 (some (if b41=true then q42==vt11_13 else false)).bind fun b44=>
 (gd (b44==true) (AN vt77_27.Players (1:Int))).bind fun e45=>
 (some (if b44=true then(e45.Hand.length:Int)==(if(Al ((7:Int) - a1))<a0 then(Al ((7:Int) - a1))else a0)else false)).bind fun b46=>
 (gd (b46==true) (AN vt77_27.Players (0:Int))).bind fun e47=>
 (some (if b46=true then(e47.Hand.length:Int)==(if 7<a0 then(7:Int)else a0)else false)).bind fun b48=>
 (some (if b48=true then vt77_27.Turn==1 else false)).bind fun b49=>
 (some (if b49=true then vt77_27.Step==0 else false)).bind fun b50=>
 (some (if b50=true then !vt77_27.Begun else false)).bind fun b51=>
 some b51
def Kq (a0:Int) (a1:Int) (vt11_13:Int) (vt77_27:Af) (b55:Bool) (q56:Int):Option (Bool):=
 (some (if b55=true then q56==vt11_13 else false)).bind fun b58=>
 (gd (b58==true) (AN vt77_27.Players (1:Int))).bind fun e59=>
 (some (if b58=true then(e59.Hand.length:Int)==(if(Al ((7:Int) - a1))<a0 then(Al ((7:Int) - a1))else a0)else false)).bind fun b60=>
 (gd (b60==true) (AN vt77_27.Players (0:Int))).bind fun e61=>
 (some (if b60=true then(e61.Hand.length:Int)==(if 7<a0 then(7:Int)else a0)else false)).bind fun b62=>
 (some (if b62=true then vt77_27.Turn==1 else false)).bind fun b63=>
 (some (if b63=true then vt77_27.Step==0 else false)).bind fun b64=>
 (some (if b64=true then !vt77_27.Begun else false)).bind fun b65=>
 some b65
def Gm (a0:Int) (a1:Int) (vt11_13:Int) (vt77_27:Af) (b7_74_used28:Int) (b7_74_pendingKind29:Int) (b7_74_pendingPlayer30:Int) (b7_74_pendingSource31:Int) (b7_74_pendingLeast32:Int) (b7_74_pendingMost33:Int) (b7_74_pendingN34:Int) (b7_74_waits35:Bool) (b7_74_bad36:Bool):Option (Bool):=
 (some (if false=true then true else !b7_74_waits35)).bind fun b38=>
 (if b38=true then
  (Gl).bind fun r40=>
  (some (if r40=true then !false else false)).bind fun b41=>
  jn (fun(v:Int)=>DP a0 a1 vt11_13 vt77_27 b41 v) (fun jJ43=>
  (if(b41==true)=true then
   (if false=true then
    jJ43 (0:Int)
   else
    jJ43 b7_74_used28)
  else
   jJ43 (0:Int)))
 else
  (Cu ([]:List (Ba))).bind fun r53=>
  (Gl).bind fun r54=>
  (some (if r54=true then !true else false)).bind fun b55=>
  jn (fun(v:Int)=>Kq a0 a1 vt11_13 vt77_27 b55 v) (fun jJ57=>
  (if(b55==true)=true then
   (if false=true then
    jJ57 (0:Int)
   else
    jJ57 b7_74_used28)
  else
   jJ57 (0:Int))))
def Gn (jJ37:(Af×Int×Int×Int×Int×Int×Int×Int×Bool×Bool)→Option (Bool)) (b3_77_68:Af) (b7_74_used69:Int) (b7_74_pendingKind70:Int) (b7_74_pendingPlayer71:Int) (b7_74_pendingSource72:Int) (b7_74_pendingLeast73:Int) (b7_74_pendingMost74:Int) (b7_74_pendingN75:Int) (b7_74_waits76:Bool) (b7_74_bad77:Bool):Option (Bool):=
 jJ37 (({{{b3_77_68 with Turn:=(1:Int)}with Step:=(0:Int)}with Begun:=false}),b7_74_used69,b7_74_pendingKind70,b7_74_pendingPlayer71,b7_74_pendingSource72,b7_74_pendingLeast73,b7_74_pendingMost74,b7_74_pendingN75,b7_74_waits76,b7_74_bad77)
def JL (vt5_93:List (Ba)) (vt18_94:Int) (b3_77_117:Af) (b7_74_used118:Int) (b7_74_pendingKind119:Int) (b7_74_pendingPlayer120:Int) (b7_74_pendingSource121:Int) (b7_74_pendingLeast122:Int) (b7_74_pendingMost123:Int) (b7_74_pendingN124:Int) (b7_74_waits125:Bool) (b7_74_bad126:Bool):Option (((List (Ba))×Int×Af×Int×Int×Int×Int×Int×Int×Int×Bool×Bool)⊕((Af×Int×Int×Int×Int×Int×Int×Int×Bool×Bool))):=
 some (.inl (vt5_93,(Al (vt18_94+1)),b3_77_117,b7_74_used118,b7_74_pendingKind119,b7_74_pendingPlayer120,b7_74_pendingSource121,b7_74_pendingLeast122,b7_74_pendingMost123,b7_74_pendingN124,b7_74_waits125,b7_74_bad126))
def Fm (e128:Int) (vt8_141:Int) (r174:Af) (vt39_177:List (Int)) (b7_74_used178:Int) (b7_74_pendingKind179:Int) (b7_74_pendingPlayer180:Int) (b7_74_pendingSource181:Int) (b7_74_pendingLeast182:Int) (b7_74_pendingMost183:Int) (b7_74_pendingN184:Int) (b7_74_waits185:Bool) (b7_74_bad186:Bool):Option ((Int×Af×Int×Int×Int×Int×Int×Int×Int×Bool×Bool)⊕((Af×Int×Int×Int×Int×Int×Int×Int×Bool×Bool)⊕(Af×Int×Int×Int×Int×Int×Int×Int×Bool×Bool))):=
 (AN vt39_177 (0:Int)).bind fun e188=>
 (if(e188==0)=true then
  some (.inr (.inr (r174,b7_74_used178,b7_74_pendingKind179,b7_74_pendingPlayer180,b7_74_pendingSource181,b7_74_pendingLeast182,b7_74_pendingMost183,b7_74_pendingN184,b7_74_waits185,b7_74_bad186)))
 else
  (CX r174 e128).bind fun r190=>
  some (.inl ((Al (vt8_141 - 1)),r190,b7_74_used178,b7_74_pendingKind179,b7_74_pendingPlayer180,b7_74_pendingSource181,b7_74_pendingLeast182,b7_74_pendingMost183,b7_74_pendingN184,b7_74_waits185,b7_74_bad186)))
def BW (l1000_7_74_25:List (List (Int))) (vt5_93:List (Ba)) (e128:Int) (vt8_141:Int) (b3_77_142:Af) (b7_74_used143:Int) (b7_74_pendingKind144:Int) (b7_74_pendingPlayer145:Int) (b7_74_pendingSource146:Int) (b7_74_pendingLeast147:Int) (b7_74_pendingMost148:Int) (b7_74_pendingN149:Int) (b7_74_waits150:Bool) (b7_74_bad151:Bool):Option ((Int×Af×Int×Int×Int×Int×Int×Int×Int×Bool×Bool)⊕((Af×Int×Int×Int×Int×Int×Int×Int×Bool×Bool)⊕(Af×Int×Int×Int×Int×Int×Int×Int×Bool×Bool))):=
 (if(decide (0<vt8_141))=true then
  (Gk b3_77_142 e128 vt8_141).bind fun r174=>
  (CB r174 (1:Int) e128).bind fun r175=>
  (if((r175.length:Int)==0)=true then
   some (.inr (.inr (r174,b7_74_used143,b7_74_pendingKind144,b7_74_pendingPlayer145,b7_74_pendingSource146,b7_74_pendingLeast147,b7_74_pendingMost148,b7_74_pendingN149,b7_74_waits150,b7_74_bad151)))
  else
   jn (fun(v:(List (Int))×Int×Int×Int×Int×Int×Int×Int×Bool×Bool)=>Fm e128 vt8_141 r174 v.1 v.2.1 v.2.2.1 v.2.2.2.1 v.2.2.2.2.1 v.2.2.2.2.2.1 v.2.2.2.2.2.2.1 v.2.2.2.2.2.2.2.1 v.2.2.2.2.2.2.2.2.1 v.2.2.2.2.2.2.2.2.2) (fun jJ187=>
   (some (if false=true then true else b7_74_waits150)).bind fun b191=>
   (some (if b191=true then true else b7_74_bad151)).bind fun b192=>
   (gd (b192==false) (HF (⟨11,e128,0,0,0,0,vt5_93⟩:Bw))).bind fun r193=>
   (some (if b192=true then true else r193)).bind fun b194=>
   (if b194=true then
    (Gd (⟨11,e128,0,0,0,0,vt5_93⟩:Bw)).bind fun r196=>
    jJ187 (r196,b7_74_used143,b7_74_pendingKind144,b7_74_pendingPlayer145,b7_74_pendingSource146,b7_74_pendingLeast147,b7_74_pendingMost148,b7_74_pendingN149,b7_74_waits150,b7_74_bad151)
   else
    (if(b7_74_used143==(l1000_7_74_25.length:Int))=true then
     none
    else
     (AN l1000_7_74_25 b7_74_used143).bind fun e198=>
     (AN l1000_7_74_25 b7_74_used143).bind fun e199=>
     (KR (⟨11,e128,0,0,0,0,vt5_93⟩:Bw) e199).bind fun r200=>
     (if(!r200)=true then
      (Gd (⟨11,e128,0,0,0,0,vt5_93⟩:Bw)).bind fun r202=>
      jJ187 (r202,(Al (b7_74_used143+1)),b7_74_pendingKind144,b7_74_pendingPlayer145,b7_74_pendingSource146,b7_74_pendingLeast147,b7_74_pendingMost148,b7_74_pendingN149,b7_74_waits150,true)
     else
      (B9 e199).bind fun r203=>
      jJ187 (r203,(Al (b7_74_used143+1)),b7_74_pendingKind144,b7_74_pendingPlayer145,b7_74_pendingSource146,b7_74_pendingLeast147,b7_74_pendingMost148,b7_74_pendingN149,b7_74_waits150,b7_74_bad151))))))
 else
  some (.inr (.inl (b3_77_142,b7_74_used143,b7_74_pendingKind144,b7_74_pendingPlayer145,b7_74_pendingSource146,b7_74_pendingLeast147,b7_74_pendingMost148,b7_74_pendingN149,b7_74_waits150,b7_74_bad151))))
def Dl (l1000_7_74_25:List (List (Int))) (r79:(List (Int))) (vt5_93:List (Ba)) (vt18_94:Int) (b3_77_95:Af) (b7_74_used96:Int) (b7_74_pendingKind97:Int) (b7_74_pendingPlayer98:Int) (b7_74_pendingSource99:Int) (b7_74_pendingLeast100:Int) (b7_74_pendingMost101:Int) (b7_74_pendingN102:Int) (b7_74_waits103:Bool) (b7_74_bad104:Bool):Option (((List (Ba))×Int×Af×Int×Int×Int×Int×Int×Int×Int×Bool×Bool)⊕((Af×Int×Int×Int×Int×Int×Int×Int×Bool×Bool))):=
 (if(decide (vt18_94<(r79.length:Int)))=true then
  jn (fun(v:Af×Int×Int×Int×Int×Int×Int×Int×Bool×Bool)=>JL vt5_93 vt18_94 v.1 v.2.1 v.2.2.1 v.2.2.2.1 v.2.2.2.2.1 v.2.2.2.2.2.1 v.2.2.2.2.2.2.1 v.2.2.2.2.2.2.2.1 v.2.2.2.2.2.2.2.2.1 v.2.2.2.2.2.2.2.2.2) (fun jJ127=>
  (AN r79 vt18_94).bind fun e128=>
  (iter (fun(v:Int×Af×Int×Int×Int×Int×Int×Int×Int×Bool×Bool)=>BW l1000_7_74_25 vt5_93 e128 v.1 v.2.1 v.2.2.1 v.2.2.2.1 v.2.2.2.2.1 v.2.2.2.2.2.1 v.2.2.2.2.2.2.1 v.2.2.2.2.2.2.2.1 v.2.2.2.2.2.2.2.2.1 v.2.2.2.2.2.2.2.2.2.1 v.2.2.2.2.2.2.2.2.2.2) FU ((7:Int),b3_77_95,b7_74_used96,b7_74_pendingKind97,b7_74_pendingPlayer98,b7_74_pendingSource99,b7_74_pendingLeast100,b7_74_pendingMost101,b7_74_pendingN102,b7_74_waits103,b7_74_bad104)).bind (Sum.elim (fun o0=>jJ127 (o0.1,o0.2.1,o0.2.2.1,o0.2.2.2.1,o0.2.2.2.2.1,o0.2.2.2.2.2.1,o0.2.2.2.2.2.2.1,o0.2.2.2.2.2.2.2.1,o0.2.2.2.2.2.2.2.2.1,o0.2.2.2.2.2.2.2.2.2)) (fun o1=>jJ127 (o1.1,o1.2.1,o1.2.2.1,o1.2.2.2.1,o1.2.2.2.2.1,o1.2.2.2.2.2.1,o1.2.2.2.2.2.2.1,o1.2.2.2.2.2.2.2.1,o1.2.2.2.2.2.2.2.2.1,o1.2.2.2.2.2.2.2.2.2))))
 else
  some (.inr (b3_77_95,b7_74_used96,b7_74_pendingKind97,b7_74_pendingPlayer98,b7_74_pendingSource99,b7_74_pendingLeast100,b7_74_pendingMost101,b7_74_pendingN102,b7_74_waits103,b7_74_bad104)))
def DQ (a0:Int) (a1:Int) (r7:Af×Int) (vt11_13:Int) (b7_74_used16:Int) (b7_74_pendingKind17:Int) (b7_74_pendingPlayer18:Int) (b7_74_pendingSource19:Int) (b7_74_pendingLeast20:Int) (b7_74_pendingMost21:Int) (b7_74_pendingN22:Int) (b7_74_waits23:Bool) (b7_74_bad24:Bool) (l1000_7_74_25:List (List (Int))):Option (Bool):=
 jn (fun(v:Af×Int×Int×Int×Int×Int×Int×Int×Bool×Bool)=>Gm a0 a1 vt11_13 v.1 v.2.1 v.2.2.1 v.2.2.2.1 v.2.2.2.2.1 v.2.2.2.2.2.1 v.2.2.2.2.2.2.1 v.2.2.2.2.2.2.2.1 v.2.2.2.2.2.2.2.2.1 v.2.2.2.2.2.2.2.2.2) (fun jJ37=>
 (FJ r7.1).bind fun r67=>
 jn (fun(v:Af×Int×Int×Int×Int×Int×Int×Int×Bool×Bool)=>Gn jJ37 v.1 v.2.1 v.2.2.1 v.2.2.2.1 v.2.2.2.2.1 v.2.2.2.2.2.1 v.2.2.2.2.2.2.1 v.2.2.2.2.2.2.2.1 v.2.2.2.2.2.2.2.2.1 v.2.2.2.2.2.2.2.2.2) (fun jJ78=>
 (Gj (⟨r67.Players,r67.Objects,r67.Battlefield,r67.Exile,r67.Stack,r67.Waiting,r67.Conts,r67.Turn,r67.Active,r67.Step,r67.Begun,r67.Priority,r67.Passes,r67.NextId,r67.NextStamp,r67.Seed,r67.Extra,r67.Over,r67.Winner⟩:Af)).bind fun r79=>
 (iter (fun(v:(List (Ba))×Int×Af×Int×Int×Int×Int×Int×Int×Int×Bool×Bool)=>Dl l1000_7_74_25 r79 v.1 v.2.1 v.2.2.1 v.2.2.2.1 v.2.2.2.2.1 v.2.2.2.2.2.1 v.2.2.2.2.2.2.1 v.2.2.2.2.2.2.2.1 v.2.2.2.2.2.2.2.2.1 v.2.2.2.2.2.2.2.2.2.1 v.2.2.2.2.2.2.2.2.2.2.1 v.2.2.2.2.2.2.2.2.2.2.2) FU (([(⟨10,0,0⟩:Ba),(⟨9,0,0⟩:Ba)]:List (Ba)),(0:Int),(⟨r67.Players,r67.Objects,r67.Battlefield,r67.Exile,r67.Stack,r67.Waiting,r67.Conts,r67.Turn,r67.Active,r67.Step,r67.Begun,r67.Priority,r67.Passes,r67.NextId,r67.NextStamp,r67.Seed,r67.Extra,r67.Over,r67.Winner⟩:Af),b7_74_used16,b7_74_pendingKind17,b7_74_pendingPlayer18,b7_74_pendingSource19,b7_74_pendingLeast20,b7_74_pendingMost21,b7_74_pendingN22,b7_74_waits23,b7_74_bad24)).bind (fun o0=>jJ78 (o0.1,o0.2.1,o0.2.2.1,o0.2.2.2.1,o0.2.2.2.2.1,o0.2.2.2.2.2.1,o0.2.2.2.2.2.2.1,o0.2.2.2.2.2.2.2.1,o0.2.2.2.2.2.2.2.2.1,o0.2.2.2.2.2.2.2.2.2))))
def JM (jJ26:(Int×Int×Int×Int×Int×Int×Int×Bool×Bool×(List (List (Int))))→Option (Bool)) (b7_74_used204:Int) (b7_74_pendingKind205:Int) (b7_74_pendingPlayer206:Int) (b7_74_pendingSource207:Int) (b7_74_pendingLeast208:Int) (b7_74_pendingMost209:Int) (b7_74_pendingN210:Int) (b7_74_waits211:Bool) (b7_74_bad212:Bool) (l1000_7_74_213:List (List (Int))):Option (Bool):=
 jJ26 (b7_74_used204,b7_74_pendingKind205,b7_74_pendingPlayer206,b7_74_pendingSource207,b7_74_pendingLeast208,b7_74_pendingMost209,b7_74_pendingN210,b7_74_waits211,b7_74_bad212,l1000_7_74_213)
def Bx (l9_14:List (List (Int))) (vt10_227:Int) (b7_74_used228:Int) (b7_74_pendingKind229:Int) (b7_74_pendingPlayer230:Int) (b7_74_pendingSource231:Int) (b7_74_pendingLeast232:Int) (b7_74_pendingMost233:Int) (b7_74_pendingN234:Int) (b7_74_waits235:Bool) (b7_74_bad236:Bool) (l1000_7_74_237:List (List (Int))):Option ((Int×Int×Int×Int×Int×Int×Int×Int×Bool×Bool×(List (List (Int))))⊕((Int×Int×Int×Int×Int×Int×Int×Bool×Bool×(List (List (Int)))))):=
 (if(decide (vt10_227<(l9_14.length:Int)))=true then
  (AN l9_14 vt10_227).bind fun e250=>
  (AN l9_14 vt10_227).bind fun e251=>
  (B9 e251).bind fun r252=>
  (EW 24 l1000_7_74_237 ([r252]:List (List (Int)))).bind fun l253=>
  some (.inl ((Al (vt10_227+1)),b7_74_used228,b7_74_pendingKind229,b7_74_pendingPlayer230,b7_74_pendingSource231,b7_74_pendingLeast232,b7_74_pendingMost233,b7_74_pendingN234,b7_74_waits235,b7_74_bad236,l253))
 else
  some (.inr (b7_74_used228,b7_74_pendingKind229,b7_74_pendingPlayer230,b7_74_pendingSource231,b7_74_pendingLeast232,b7_74_pendingMost233,b7_74_pendingN234,b7_74_waits235,b7_74_bad236,l1000_7_74_237)))
def DR (a0:Int) (a1:Int) (r7:Af×Int) (vt11_13:Int) (l9_14:List (List (Int))):Option (Bool):=
 jn (fun(v:Int×Int×Int×Int×Int×Int×Int×Bool×Bool×(List (List (Int))))=>DQ a0 a1 r7 vt11_13 v.1 v.2.1 v.2.2.1 v.2.2.2.1 v.2.2.2.2.1 v.2.2.2.2.2.1 v.2.2.2.2.2.2.1 v.2.2.2.2.2.2.2.1 v.2.2.2.2.2.2.2.2.1 v.2.2.2.2.2.2.2.2.2) (fun jJ26=>
 jn (fun(v:Int×Int×Int×Int×Int×Int×Int×Bool×Bool×(List (List (Int))))=>JM jJ26 v.1 v.2.1 v.2.2.1 v.2.2.2.1 v.2.2.2.2.1 v.2.2.2.2.2.1 v.2.2.2.2.2.2.1 v.2.2.2.2.2.2.2.1 v.2.2.2.2.2.2.2.2.1 v.2.2.2.2.2.2.2.2.2) (fun jJ214=>
 (iter (fun(v:Int×Int×Int×Int×Int×Int×Int×Int×Bool×Bool×(List (List (Int))))=>Bx l9_14 v.1 v.2.1 v.2.2.1 v.2.2.2.1 v.2.2.2.2.1 v.2.2.2.2.2.1 v.2.2.2.2.2.2.1 v.2.2.2.2.2.2.2.1 v.2.2.2.2.2.2.2.2.1 v.2.2.2.2.2.2.2.2.2.1 v.2.2.2.2.2.2.2.2.2.2) FU ((0:Int),(0:Int),(0:Int),(0:Int),(0:Int),(0:Int),(0:Int),(0:Int),false,false,([]:List (List (Int))))).bind (fun o0=>jJ214 (o0.1,o0.2.1,o0.2.2.1,o0.2.2.2.1,o0.2.2.2.2.1,o0.2.2.2.2.2.1,o0.2.2.2.2.2.2.1,o0.2.2.2.2.2.2.2.1,o0.2.2.2.2.2.2.2.2.1,o0.2.2.2.2.2.2.2.2.2))))
def CI (a0:Int) (a1:Int) (r7:Af×Int) (l9_11:List (List (Int))):Option (Bool):=
 jn (fun(v:Int×(List (List (Int))))=>DR a0 a1 r7 v.1 v.2) (fun jJ15=>
 (if(decide (0<a0))=true then
  (EW 24 l9_11 ([([(0:Int)]:List (Int))]:List (List (Int)))).bind fun l255=>
  jJ15 ((Al ((l9_11.length:Int)+(1:Int))),l255)
 else
  jJ15 ((l9_11.length:Int),l9_11)))
def Cb (a0:Int) (a1:Int) (r7:Af×Int) (l9_9:List (List (Int))):Option (Bool):=
 jn (fun(v:(List (List (Int))))=>CI a0 a1 r7 v) (fun jJ12=>
 (some (if(decide (a1<7))=true then decide (0<a0)else false)).bind fun b256=>
 (if b256=true then
  (EW 24 l9_9 ([([(0:Int)]:List (Int))]:List (List (Int)))).bind fun l258=>
  jJ12 l258
 else
  jJ12 l9_9))
def AY (a0:Int) (a1:Int) (vt10_262:Int) (l9_263:List (List (Int))):Option ((Int×(List (List (Int))))⊕((List (List (Int))))):=
 (some (if(decide (vt10_262<a1))=true then decide (0<a0)else false)).bind fun b266=>
 (if b266=true then
  (EW 24 l9_263 ([([(1:Int)]:List (Int))]:List (List (Int)))).bind fun l268=>
  some (.inl ((Al (vt10_262+1)),l268))
 else
  some (.inr l9_263))
def D3 (a0:Int) (a1:Int) (a2:Int):Option (Bool):=
 (some (if(decide (a0<0))=true then true else decide (12<a0))).bind fun b1=>
 (some (if b1=true then true else decide (a1<0))).bind fun b2=>
 (some (if b2=true then true else decide (7<a1))).bind fun b3=>
 (if b3=true then
  (Gl).bind fun r5=>
  some r5
 else
  (Gb a0 a2).bind fun r6=>
  (FK r6).bind fun r7=>
  (if(r7.2 != 0)=true then
   some false
  else
   jn (fun(v:(List (List (Int))))=>Cb a0 a1 r7 v) (fun jJ10=>
   (iter (fun(v:Int×(List (List (Int))))=>AY a0 a1 v.1 v.2) FU ((0:Int),([]:List (List (Int))))).bind (fun o0=>jJ10 o0))))
def L6:CE TE Tryz.prog I0:=CG [TW,K7,Pj,IU,Ie,Lc,Lf,Ib,MY,Lb,Pi,IY,IX] An Av 9 3 Tryz.f3 (Tryz.f3.body.getD .skip) (.s .n (.s .n (.s .n (.s .n (.s .n (.j ⟨[0,1,7],[(9, .c (.c (.osl [9])))],[[7]],[([9], .row 26)]⟩ (.s .n (.l ⟨[0,1,7],[(9, .c (.c (.osl [9]))),(10, .c (.v (.k (.int .i64))))],[[7]],[([9], .row 26)]⟩ [(1,⟨[0,1,7],[(9, .c (.c (.osl [9])))],[[7]],[([9], .row 26)]⟩)] (.s .n (.s (.r [] [] (.q 2 .bf .n)) .n)))) (.j ⟨[0,1,7],[(9, .c (.c (.osl [9])))],[[7]],[([9], .row 26)]⟩ (.s .n (.i (.r [] [] (.q 2 .bf .n)) .n)) (.s .n (.j ⟨[0,1,7],[(9, .c (.c (.osl [9]))),(11, .c (.v (.k (.int .i64))))],[[7]],[([9], .row 26)]⟩ (.s .n (.i (.s (.r [] [] (.q 2 .bf .n)) .n) .n)) (.s (.r [] [] (.j 1 ⟨[0,1,7,11],[(74, .c (.c (.ptr [7,74] (0))))],[[7]],[([7,74], .box [.c (.osl [1000,7,74]), .v (.k (.int .i64)), .v (.k (.int .i64)), .v (.k (.int .i64)), .v (.k (.int .i64)), .v (.k (.int .i64)), .v (.k (.int .i64)), .v (.k (.int .i64)), .c (.nils), .v (.k (.bool)), .v (.k (.bool))]),([1000,7,74], .row 26)]⟩ (.s (.r [] [] (.g 0 (.ug [0,1,7,11,74]) .n)) (.s (.r [] [([7,74],0,[1000,7,74],26)] .n) (.j ⟨[3],[],[[7]],[([7,74], .box [.c (.osl [1000,7,74]), .v (.k (.int .i64)), .v (.k (.int .i64)), .v (.k (.int .i64)), .v (.k (.int .i64)), .v (.k (.int .i64)), .v (.k (.int .i64)), .v (.k (.int .i64)), .c (.nils), .v (.k (.bool)), .v (.k (.bool))]),([1000,7,74], .row 26)]⟩ (.s .n (.l ⟨[3,8,9],[(10, .c (.v (.k (.int .i64))))],[[7],[9]],[([7,74], .box [.c (.osl [1000,7,74]), .v (.k (.int .i64)), .v (.k (.int .i64)), .v (.k (.int .i64)), .v (.k (.int .i64)), .v (.k (.int .i64)), .v (.k (.int .i64)), .v (.k (.int .i64)), .c (.nils), .v (.k (.bool)), .v (.k (.bool))]),([1000,7,74], .row 26)]⟩ [(1,⟨[3],[],[[7]],[([7,74], .box [.c (.osl [1000,7,74]), .v (.k (.int .i64)), .v (.k (.int .i64)), .v (.k (.int .i64)), .v (.k (.int .i64)), .v (.k (.int .i64)), .v (.k (.int .i64)), .v (.k (.int .i64)), .c (.nils), .v (.k (.bool)), .v (.k (.bool))]),([1000,7,74], .row 26)]⟩)] (.s .n (.s .n (.s (.s .n (.r [] [] (.t (.q 6 .co (.q 7 .bf .n))))) .n))))) .n))) .n)) (.s (.r [] [] (.j 2 ⟨[0,1,11,12],[(77, .agg [.v (.s 31)])],[[1000,7,74]],[([7,74], .box [.c (.osl [1000,7,74]), .v (.k (.int .i64)), .v (.k (.int .i64)), .v (.k (.int .i64)), .v (.k (.int .i64)), .v (.k (.int .i64)), .v (.k (.int .i64)), .v (.k (.int .i64)), .c (.nils), .v (.k (.bool)), .v (.k (.bool))])]⟩ (.s (.r [] [] (.g 0 (.ug [0,1,11,12,77]) .n)) (.s (.r [] [] (.q 1 .co .n)) (.s .n (.s .n (.j ⟨[3,4],[],[[4,77],[1000,7,74]],[([3,77], .box [.v (.s 31)]),([7,74], .box [.c (.osl [1000,7,74]), .v (.k (.int .i64)), .v (.k (.int .i64)), .v (.k (.int .i64)), .v (.k (.int .i64)), .v (.k (.int .i64)), .v (.k (.int .i64)), .v (.k (.int .i64)), .c (.nils), .v (.k (.bool)), .v (.k (.bool))])]⟩ (.s (.r [[3,0,11,77],[4,0,11,77],[16,0,11,77],[6,0,11,77],[5,0,11,77],[2,0,11,77]] [] (.g 0 (.fd [1000003,0,0,11,77]) .n)) (.l ⟨[0,3,4,16,17],[(5, .c (.v (.k (.lst 76)))),(18, .c (.v (.k (.int .i64))))],[[4,77],[1000,7,74]],[([3,77], .box [.v (.s 31)]),([7,74], .box [.c (.osl [1000,7,74]), .v (.k (.int .i64)), .v (.k (.int .i64)), .v (.k (.int .i64)), .v (.k (.int .i64)), .v (.k (.int .i64)), .v (.k (.int .i64)), .v (.k (.int .i64)), .c (.nils), .v (.k (.bool)), .v (.k (.bool))])]⟩ [(1,⟨[3,4],[],[[4,77],[1000,7,74]],[([3,77], .box [.v (.s 31)]),([7,74], .box [.c (.osl [1000,7,74]), .v (.k (.int .i64)), .v (.k (.int .i64)), .v (.k (.int .i64)), .v (.k (.int .i64)), .v (.k (.int .i64)), .v (.k (.int .i64)), .v (.k (.int .i64)), .c (.nils), .v (.k (.bool)), .v (.k (.bool))])]⟩)] (.s .n (.s .n (.j ⟨[0,3,4,5,16,17,18],[],[[4,77],[1000,7,74]],[([3,77], .box [.v (.s 31)]),([7,74], .box [.c (.osl [1000,7,74]), .v (.k (.int .i64)), .v (.k (.int .i64)), .v (.k (.int .i64)), .v (.k (.int .i64)), .v (.k (.int .i64)), .v (.k (.int .i64)), .v (.k (.int .i64)), .c (.nils), .v (.k (.bool)), .v (.k (.bool))])]⟩ (.s .n (.s .n (.l ⟨[0,3,4,5,7,16,17,18],[(8, .c (.v (.k (.int .i64))))],[[4,77],[1000,7,74]],[([3,77], .box [.v (.s 31)]),([7,74], .box [.c (.osl [1000,7,74]), .v (.k (.int .i64)), .v (.k (.int .i64)), .v (.k (.int .i64)), .v (.k (.int .i64)), .v (.k (.int .i64)), .v (.k (.int .i64)), .v (.k (.int .i64)), .c (.nils), .v (.k (.bool)), .v (.k (.bool))])]⟩ [(3,⟨[0,3,4,5,16,17,18],[],[[4,77],[1000,7,74]],[([3,77], .box [.v (.s 31)]),([7,74], .box [.c (.osl [1000,7,74]), .v (.k (.int .i64)), .v (.k (.int .i64)), .v (.k (.int .i64)), .v (.k (.int .i64)), .v (.k (.int .i64)), .v (.k (.int .i64)), .v (.k (.int .i64)), .c (.nils), .v (.k (.bool)), .v (.k (.bool))])]⟩),(2,⟨[0,3,4,5,16,17,18],[],[[4,77],[1000,7,74]],[([3,77], .box [.v (.s 31)]),([7,74], .box [.c (.osl [1000,7,74]), .v (.k (.int .i64)), .v (.k (.int .i64)), .v (.k (.int .i64)), .v (.k (.int .i64)), .v (.k (.int .i64)), .v (.k (.int .i64)), .v (.k (.int .i64)), .c (.nils), .v (.k (.bool)), .v (.k (.bool))])]⟩)] (.s .n (.s (.s .n (.s .n (.s (.r [] [] (.j 4 ⟨[0,3,4,5,7,8,16,17,18],[(39, .c (.v (.k (.lst 3))))],[[3,77],[4,77],[1000,7,74]],[([7,74], .box [.c (.osl [1000,7,74]), .v (.k (.int .i64)), .v (.k (.int .i64)), .v (.k (.int .i64)), .v (.k (.int .i64)), .v (.k (.int .i64)), .v (.k (.int .i64)), .v (.k (.int .i64)), .c (.nils), .v (.k (.bool)), .v (.k (.bool))])]⟩ (.s (.r [] [] (.g 0 (.ug [0,3,4,5,7,8,16,17,18,39]) .n)) (.s .n (.s (.s .n (.i .x .n)) (.s .n (.s .n (.s .n (.s (.r [] [] (.q 1 .co .n)) .n))))))) .n)) .n))) .n))))) .n))))) .n))))) .n)) (.s (.r [] [] (.c 1 (.s (.r [] [] (.g 0 (.ug [0,1,11,12,13,80]) .n)) (.s .n (.s .n (.s (.r [] [] (.q 2 .co .n)) .n)))) .n)) (.s (.r [] [] (.u 7 [0,1,11,13,88] [[13]] (.int .i64) (.s (.r [] [] (.g 0 (.ug [0,1,11,13,88,90]) .n)) .n) .n)) .n))))))))))))) [.k (.int .i64), .k (.int .i64), .k (.int .u64)] [.k (.bool)] (fun x=>D3 x.1 x.2.1 x.2.2.1) Tryz.func3 rfl (by kernel_rfl)
def L7 (a0:Int) (a1:Int) (a2:Int) (r:Bool):Prop:=CC Tryz.prog I0 3 [vI a0,vI a1, .c (.int .u64 a2)] (· =vB r)
theorem KZ {a0:Int} {a1:Int} {a2:Int} {r:Bool} (h:D3 a0 a1 a2=some r):L7 a0 a1 a2 r:=MN (by kernel_rfl) (L6.ok (a0,a1,a2,()) r h)
end Go.PL
